/- What Go code of this program comes to on a small machine that its translation simulates (a part of the proof of a law of its timers). No condition. -/
import Derived.KernelRfl
import Derived.Test.YthbopkpamlbjoaaGreatDoorP03
set_option linter.unusedSimpArgs false
set_option linter.unusedVariables false
set_option linter.unusedSectionVars false
set_option maxHeartbeats 4000000
namespace Go.Ab
section
def sY (y:Int):Int:=365*y+y/4-y/100
def gO (o:Int):Int:=o-o/1460+o/36524-o/146096
theorem gO_step (o:Int):gO o<=gO (o+1):=by unfold gO; omega
theorem gO_mono (o:Int)(h:0<=o):∀k:Nat,gO o<=gO (o+k)
 | 0=>by simp
 | k+1=>by
  have h1:=gO_mono o h k;have h2:=gO_step (o+k);have e:o+((k+1:Nat):Int)=o+k+1:=by omega
  rw[e]; omega
def yearOk (y:Nat):Bool:=decide (365*(y:Int)<=gO (sY y))&&(y==0||decide (gO (sY y-1)<365*(y:Int)))
theorem yearOk_all:∀y,y<400->yearOk y=true:=by decide +kernel
theorem sY_pos (y:Int)(h:0<=y):0<=sY y:=by unfold sY; omega
theorem cyc (o:Int)(h0:0<=o)(h1:o<146097)(y:Int)(hy:y=gO o/365):0<=y/\y<=399/\0<=o-sY y/\o-sY y<=365:=by
 have hg:0<=gO o/\gO o<146000:=by unfold gO; omega
 have hy0:0<=y:=by omega
 have hy1:y<=399:=by omega
 obtain⟨n,rfl⟩:=Int.eq_ofNat_of_zero_le hy0;have k0:=yearOk_all n (by omega);simp only[yearOk,Bool.and_eq_true,Bool.or_eq_true,decide_eq_true_eq,beq_iff_eq] at k0
 have hlow:sY n<=o:=by
  refine Classical.byContradiction fun hc=>?_;have hc':o<sY n:=by omega
  have hn:n≠0:=by rintro rfl; simp[sY] at hc'; omega
  rcases k0.2 with hz | hz
  ·exact hn hz
  ·have:=gO_mono o h0 (sY n-1-o).toNat;have e:o+(((sY n-1-o).toNat:Nat):Int)=sY n-1:=by omega
   rw[e] at this; omega
 have hup:o-sY n<=365:=by
  by_cases hn:n=399
  ·subst hn; simp only[sY] at *; omega
  ·have k1:=yearOk_all (n+1) (by omega);simp only[yearOk,Bool.and_eq_true,decide_eq_true_eq] at k1;refine Classical.byContradiction fun hc=>?_;have hs:sY ((n+1:Nat):Int)<=o:=by unfold sY at *; omega
   have:=gO_mono (sY ((n+1:Nat):Int)) (sY_pos _ (by omega)) (o-sY ((n+1:Nat):Int)).toNat;have e:sY ((n+1:Nat):Int)+(((o-sY ((n+1:Nat):Int)).toNat:Nat):Int)=o:=by omega
   rw[e] at this;have:=k1.1;omega
 exact⟨by omega,by omega,by omega,hup⟩
end
section
theorem rd_zero {v:Value}{l:List Value}:Fr.rd (v::l) 0=v:=rfl
theorem rd_succ {v:Value}{l:List Value}{n:Nat}:Fr.rd (v::l) (n+1)=Fr.rd l n:=rfl
theorem rd_nil {n:Nat}:Fr.rd [] n=undef:=rfl
theorem rd_st (f:Fr)(a b:Nat)(v:Value):Fr.rd (Fr.st f a v) b=if a=b then v else Fr.rd f b:=by
 induction a generalizing f b with
 | zero =>
  cases f with
  | nil=>cases b<;>simp[Fr.st,Fr.rd]
  | cons x f=>cases b<;>simp[Fr.st,Fr.rd]
 | succ a ih =>
  cases f with
  | nil =>
   cases b with
   | zero=>simp[Fr.st,Fr.rd]
   | succ b=>simp only[Fr.st,rd_succ,ih]; simp[rd_nil]
  | cons x f =>
   cases b with
   | zero=>simp[Fr.st,Fr.rd]
   | succ b=>simp only[Fr.st,rd_succ,ih]; simp
def gv (w:Bool)(v:Value):Bool:=match v with
 | .bool b=>b==w
 | _=>false
theorem goes_gv {f:Fr}{t:Nat}{w:Bool}:goes f (some (t,w))=gv w (f.rd t):=rfl
theorem gv_bool {w b:Bool}:gv w (.bool b)=(b==w):=rfl
theorem gv_undef {w:Bool}:gv w undef=false:=rfl
theorem get_cons {b:Blk}{l:Hp}{n:Nat}:(b::l)[n+1]?=l[n]?:=List.getElem?_cons_succ
theorem len_cons {b:Blk}{l:Hp}:(b::l).length=l.length+1:=rfl
theorem mn2_min {k:IntKind}{x y:Int}:mn2 (.int k x) (.int k y)=some (.int k (min x y)):=by
 simp only[mn2,if_true,Option.some.injEq,Value.int.injEq,true_and];split<;>omega
theorem mx2_max {k:IntKind}{x y:Int}:mx2 (.int k x) (.int k y)=some (.int k (max x y)):=by
 simp only[mx2,if_true,Option.some.injEq,Value.int.injEq,true_and];split<;>omega
class EnvT (E:Env):Prop where
 mono:EnvMono E
 tab:E.T=envT
instance {E:Env}[h:EnvT E]:EnvMono E:=h.mono
theorem EnvT.fn {E:Env}(hE:EnvT E){g:FuncId}{fn:AFn}(h:envT g=some fn){lim:Nat}{args:List Value}{hp:Hp} :
  evI E lim (.func g) args hp=if args.length<=fn.n then retK fn.keep hp fn.res (evK E (if fn.keep then lim else hp.length) fn.ac args hp) else none:=evI_fn hE.mono (by rw[hE.tab]; exact h)
theorem wrap64 {n:Int}(h1:-9223372036854775808<=n)(h2:n<=9223372036854775807):IntKind.i64.wrap n=n:=by
 simp only[IntKind.wrap,IntKind.bits,IntKind.signed];simp;split<;>omega
theorem w64 {x:Int}(h:-9223372036854775808<=x/\x<=9223372036854775807:=by omega):IntKind.i64.wrap x=x:=wrap64 h.1 h.2
theorem wn1 {i:Nat}(h:(i:Int)<9223372036854775807:=by omega):IntKind.i64.wrap ((i:Int)+1)=((i+1:Nat):Int):=by rw[wrap64 (by omega) (by omega)]; rfl
attribute [simp] rd_st rd_zero rd_succ rd_nil
attribute [push_cast] List.set_set List.length_set Int.toNat_natCast isNil Option.isNone_some Option.isNone_none op_guard' chk_guard' guardR_true guardR_false guardR_some chkR_some pick_run' pickV_bool or_bool and_bool guard_f guard_t AOp.run evK_seq' seqK_norm seqK_exit seqK_ret evK_reg' evK_cond evK_skip evK_ret evK_exit evK_block blockK_norm blockK_ret blockK_exit condK_true condK_false condK_bool retK_norm retK_ret afterL_some runL_nil runL_cons nextL_some putR_some putR_none op_free chk_free goes_gv gv_bool gv_undef cond_true cond_false get_app get_app0 set_app set_app0 len_app app_app take_app AOp.go Fr.ev Fr.st put Option.map_some rdC rdN Value.cells List.getElem?_cons_zero List.getElem?_cons_succ abin aun Nat.zero_add resV resL ARes.get leave flat flatA flat1 sure sure1 beq_self_eq_true Bool.and_true Bool.and_self Bool.false_eq_true if_false if_true List.map_cons List.map_nil List.toList_toArray List.nil_append List.append_nil List.length_cons List.length_nil decide_true decide_false List.cons_append List.drop_succ_cons List.drop_zero List.take_succ_cons List.take_zero List.take_length Bool.true_or Bool.or_true Bool.false_or Bool.or_false Bool.true_and Bool.false_and Bool.and_false Bool.not_true Bool.not_false fillL lay List.set_cons_zero List.set_cons_succ Option.bind_some bne single wrN List.all_cons List.all_nil Nat.le_refl true_or or_true and_self and_true true_and implies_true forall_const IntKind.bits List.getElem?_toArray mini foldV mn2_min mx2_max Tb.o Tb.g Tb.n Tb.t Tb.i Tb.z Tb.tt Tb.ff rd_zero rd_succ rd_nil rd_st
end
section
theorem tm_nonneg {a b:Int}(ha:0<=a)(_:0<b):a.tdiv b=a/b/\a.tmod b=a%b:=⟨Int.tdiv_eq_ediv_of_nonneg ha,Int.tmod_eq_emod_of_nonneg ha⟩
theorem tm_neg {a b:Int}(ha:a<0):a.tdiv b=-((-a)/b)/\a.tmod b=-((-a)%b):=by
 have h1:a.tdiv b=-((-a).tdiv b):=by rw[Int.neg_tdiv]; omega
 have h2:a.tmod b=-((-a).tmod b):=by rw[Int.neg_tmod]; omega
 rw[h1,h2,Int.tdiv_eq_ediv_of_nonneg (by omega),Int.tmod_eq_emod_of_nonneg (by omega)];exact⟨rfl,rfl⟩
theorem div_floor {a b:Int}(hb:0<b):(if a.tmod b<0 then a.tdiv b-1 else a.tdiv b)=a/b/\(if a.tmod b<0 then a.tmod b+b else a.tmod b)=a%b/\-b<a.tmod b/\a.tmod b<b:=by
 by_cases ha:0<=a
 ·obtain⟨h1,h2⟩:=tm_nonneg ha hb;have:=Int.emod_nonneg a (by omega:b≠0);have h3:=Int.emod_lt_of_pos a hb;rw[h1,h2];rw[if_neg (by omega),if_neg (by omega)];exact⟨rfl,rfl,by omega,by omega⟩
 ·obtain⟨h1,h2⟩:=tm_neg (a:=a) (b:=b) (by omega);have p1:=Int.emod_nonneg (-a) (by omega:b≠0);have p2:=Int.emod_lt_of_pos (-a) hb;have p3:=Int.emod_nonneg a (by omega:b≠0);have p4:=Int.emod_lt_of_pos a hb;have e1:=Int.mul_ediv_add_emod a b;have e2:=Int.mul_ediv_add_emod (-a) b;rw[h1,h2];have key:b*(a/b+(-a)/b)+(a%b+(-a)%b)=0:=by rw[Int.mul_add]; omega
  have hq:a/b+(-a)/b=0\/a/b+(-a)/b=-1:=by
   have l1:a/b+(-a)/b<=0:=by
    apply Classical.byContradiction;intro hn;have:b*1<=b*(a/b+(-a)/b):=Int.mul_le_mul_of_nonneg_left (by omega) (by omega);omega
   have l2:-1<=a/b+(-a)/b:=by
    apply Classical.byContradiction;intro hn;have:b*(a/b+(-a)/b)<=b*(-2):=Int.mul_le_mul_of_nonneg_left (by omega) (by omega);omega
   omega
  rcases hq with hq | hq
  ·rw[hq] at key;rw[if_neg (by omega),if_neg (by omega)];exact⟨by omega,by omega,by omega,by omega⟩
  ·rw[hq] at key;have:¬ ((-a)%b=0):=by intro e; omega
   rw[if_pos (by omega),if_pos (by omega)];exact⟨by omega,by omega,by omega,by omega⟩
theorem tdiv_in {a b:Int}(ha:-9223372036854775808<=a)(ha2:a<=9223372036854775807)(hb:1<b):-9223372036854775807<=a.tdiv b/\a.tdiv b<=9223372036854775807:=by
 by_cases h:0<=a
 ·obtain⟨h1,-⟩:=tm_nonneg (b:=b) h (by omega);have p:=Int.ediv_le_self b h;have q:=Int.ediv_nonneg h (by omega:0<=b);omega
 ·obtain⟨h1,-⟩:=tm_neg (a:=a) (b:=b) (by omega);have q:=Int.ediv_nonneg (by omega:0<=-a) (by omega:0<=b);have p:(-a)/b<=(-a)/1\/True:=Or.inr trivial;have r:(-a)/b < -a:=Int.ediv_lt_self_of_pos_of_ne_one (by omega) (by omega);omega
variable {E:Env}(hE:EnvT E){lim:Nat}{h:Hp}
include hE
def leapF (y:Int):Bool:=y.tmod 4==0&&(y.tmod 100 != 0||y.tmod 400==0)
theorem c148 (y:Int):evI E lim (.func 148) [.int .i64 y] h=some (.bool (leapF y),h):=by
 rw[hE.fn T148]; simp +contextual only[push_cast,ac148,simprocAttr];rfl
def longF (y m:Int):Int:=if y<1\/9999<y\/m<1\/12<m then 0 else if m=2/\leapF y=true then 29 else if m=2 then 28 else if m=4\/m=6\/m=9\/m=11 then 30 else 31
theorem c86 (y m:Int):evI E lim (.func 86) [.int .i64 y,.int .i64 m] h=some (.int .i64 (longF y m),h):=by
 rw[hE.fn T86]; simp +contextual only[push_cast,ac86,c148 hE,simprocAttr];split
 ·rename_i h1;simp +contextual only[push_cast,simprocAttr];simp only[Bool.or_eq_true,decide_eq_true_eq] at h1;unfold longF;rw[if_pos (by omega)]
 ·rename_i h1;simp only[Bool.or_eq_true,decide_eq_true_eq,not_or] at h1;have hw:=w64 (x:=m-1);simp +contextual only[push_cast,c148 hE,hw,simprocAttr];split
  ·rename_i h2;simp +contextual only[push_cast,c148 hE,hw,simprocAttr];simp only[Bool.and_eq_true,beq_iff_eq] at h2;unfold longF;rw[if_neg (by omega),if_pos h2]
  ·rename_i h2;simp +contextual only[push_cast,c148 hE,hw,simprocAttr];simp only[Bool.and_eq_true,beq_iff_eq] at h2;have hc:¬ (y<1\/9999<y\/m<1\/12<m):=by omega
   unfold longF;rw[if_neg hc,if_neg h2];clear hw;obtain rfl | rfl | rfl | rfl | rfl | rfl | rfl | rfl | rfl | rfl | rfl | rfl:m=1\/m=2\/m=3\/m=4\/m=5\/m=6\/m=7\/m=8\/m=9\/m=10\/m=11\/m=12:=by omega
   all_goals
    simp +contextual only[push_cast,Int.reduceSub,simprocAttr]
    try rfl
def behindF (m:Int):Int:=IntKind.i64.wrap ((IntKind.i64.wrap (IntKind.i64.wrap (153*(IntKind.i64.wrap (m+9)).tmod 12)+2)).tdiv 5)
theorem c211 (m:Int):evI E lim (.func 211) [.int .i64 m] h=some (.int .i64 (behindF m),h):=by
 rw[hE.fn T211]; simp +contextual only[push_cast,ac211,simprocAttr];rfl
def rightF (y m d:Int):Bool:=decide (d>=1)&&decide (d<=longF y m)
theorem c146 (y m d:Int):evI E lim (.func 146) [.agg #[.int .i64 y,.int .i64 m,.int .i64 d]] h=some (.bool (rightF y m d),h):=by
 rw[hE.fn T146]; simp +contextual only[push_cast,ac146,c86 hE,simprocAttr];rfl
def daysF (y m d:Int):Int :=
 let y:=if m<=2 then IntKind.i64.wrap (y-1) else y
 IntKind.i64.wrap (IntKind.i64.wrap (IntKind.i64.wrap (IntKind.i64.wrap (IntKind.i64.wrap (IntKind.i64.wrap (IntKind.i64.wrap (y.tdiv 400)*146097)+IntKind.i64.wrap (IntKind.i64.wrap (IntKind.i64.wrap (y.tmod 400*365)+IntKind.i64.wrap ((y.tmod 400).tdiv 4))-IntKind.i64.wrap ((y.tmod 400).tdiv 100)))+behindF m)+d)-1)-719468)
theorem c147 (y m d:Int):evI E lim (.func 147) [.agg #[.int .i64 y,.int .i64 m,.int .i64 d]] h=some (.int .i64 (daysF y m d),h):=by
 rw[hE.fn T147]; simp +contextual only[push_cast,ac147,c211 hE,simprocAttr]
 by_cases hm:m<=2
 ·simp +contextual only[push_cast,c211 hE,hm,simprocAttr];simp only[daysF,if_pos hm]
 ·simp +contextual only[push_cast,c211 hE,hm,simprocAttr];simp only[daysF,if_neg hm]
theorem c145 (y m d:Int):evI E lim (.func 145) [.agg #[.int .i64 y,.int .i64 m,.int .i64 d]] h=some (.tuple #[.int .i64 (if rightF y m d=true then daysF y m d else 0),.int .i64 (if rightF y m d=true then 0 else 30)],h):=by
 rw[hE.fn T145]; simp +contextual only[push_cast,ac145,c146 hE,c147 hE,simprocAttr];cases hr:rightF y m d
 ·simp +contextual only[push_cast,c146 hE,c147 hE,hr,simprocAttr]
  try rfl
 ·simp +contextual only[push_cast,c146 hE,c147 hE,hr,simprocAttr]
  try rfl
def minusF (a:Int):Int:=if a<0 then 1 else 0
theorem c210 (a:Int)(h1:-9223372036854775808<=a)(h2:a<=9223372036854775807):evI E lim (.func 210) [.int .i64 a] h=some (.int .u64 (minusF a),h):=by
 have e:(IntKind.u64.wrap a).fdiv (2 ^ min 63 64)=minusF a:=by
  simp only[IntKind.wrap,IntKind.bits,IntKind.signed,minusF];simp only[Int.fdiv_eq_ediv_of_nonneg _ (by decide:(0:Int)<=2 ^ min 63 64)];simp;split<;>omega
 rw[hE.fn T210]; simp +contextual only[push_cast,ac210,e,simprocAttr]
theorem c143 (a b:Int)(ha:-9223372036854775808<=a)(ha2:a<=9223372036854775807)(hb:1<b)(hb2:b<=9223372036854775807):evI E lim (.func 143) [.int .i64 a,.int .i64 b] h=some (.tuple #[.int .i64 (a/b),.int .i64 (a%b),.bool true],h):=by
 have e1:(b==0)=false:=by simpa using(by omega:b≠0)
 have e2:(b==-1)=false:=by simpa using(by omega:b≠-1)
 have e3:(b=0)=False:=by simpa using(by omega:b≠0)
 obtain⟨d1,d2,d3,d4⟩:=div_floor (a:=a) (b:=b) (by omega);obtain⟨t1,t2⟩:=tdiv_in ha ha2 hb;have hw:=w64 (x:=a.tdiv b);have hmb:minusF b=0:=by unfold minusF; rw[if_neg (by omega)]
 by_cases hn:a.tmod b<0
 ·have g1:(a.tmod b==0)=false:=by simpa using(by omega:a.tmod b≠0)
  have hma:minusF (a.tmod b)=1:=by unfold minusF; rw[if_pos hn]
  rw[if_pos hn] at d1 d2;have w1:IntKind.i64.wrap (a.tdiv b-1)=a/b:=by rw[d1]; exact wrap64 (by omega) (by omega)
  have w2:IntKind.i64.wrap (a.tmod b+b)=a%b:=by rw[d2]; exact wrap64 (by omega) (by omega)
  rw[hE.fn T143]; simp +contextual only[push_cast,ac143,c210 hE (a.tmod b) (by omega) (by omega),c210 hE b (by omega) (by omega),e1,e2,e3,hw,hma,hmb,g1,w1,w2,simprocAttr]
 ·have hma:minusF (a.tmod b)=0:=by unfold minusF; rw[if_neg hn]
  rw[if_neg hn] at d1 d2;rw[<- d1,<- d2];rw[hE.fn T143]; simp +contextual only[push_cast,ac143,c210 hE (a.tmod b) (by omega) (by omega),c210 hE b (by omega) (by omega),e1,e2,e3,hw,hma,hmb,simprocAttr]
theorem c117 (a b:Int)(ha:-9223372036854775808<=a)(ha2:a<=9223372036854775807)(hb:1<b)(hb2:b<=9223372036854775807):evI E lim (.func 117) [.int .i64 a,.int .i64 b] h=some (.int .i64 (a/b),h):=by
 have e3:(b=0)=False:=by simpa using(by omega:b≠0)
 obtain⟨d1,d2,d3,d4⟩:=div_floor (a:=a) (b:=b) (by omega);obtain⟨t1,t2⟩:=tdiv_in ha ha2 hb;have hw:=w64 (x:=a.tdiv b)
 by_cases hn:a.tmod b<0
 ·rw[if_pos hn] at d1;have w1:IntKind.i64.wrap (a.tdiv b-1)=a/b:=by rw[d1]; exact wrap64 (by omega) (by omega)
  rw[hE.fn T117]; simp +contextual only[push_cast,ac117,e3,hw,w1,hn,simprocAttr]
 ·rw[if_neg hn] at d1;rw[<- d1];rw[hE.fn T117]; simp +contextual only[push_cast,ac117,e3,hw,hn,simprocAttr]
end
section
variable {E:Env}(hE:EnvT E){lim:Nat}{h:Hp}
include hE
def microOk (y m d H M S u:Int):Bool:=rightF y m d&&decide (0<=H/\0<=M/\0<=S/\0<=u/\H<=23/\M<=59/\S<=59/\u<1000000)
def microF (y m d H M S u:Int):Int:=IntKind.i64.wrap (IntKind.i64.wrap (IntKind.i64.wrap (daysF y m d*86400000000)+IntKind.i64.wrap (IntKind.i64.wrap (IntKind.i64.wrap (IntKind.i64.wrap (IntKind.i64.wrap (H*60)+M)*60)+S)*1000000))+u)
theorem c84 (y m d H M S u:Int):evI E lim (.func 84) [.agg #[.int .i64 y,.int .i64 m,.int .i64 d,.int .i64 H,.int .i64 M,.int .i64 S,.int .i64 u]] h =
  some (.tuple #[.int .i64 (if microOk y m d H M S u=true then microF y m d H M S u else 0),.int .i64 (if microOk y m d H M S u=true then 0 else 30)],h):=by
 cases hr:rightF y m d with
 | false =>
  have:microOk y m d H M S u=false:=by simp[microOk,hr]
  rw[hE.fn T84]; simp +contextual only[push_cast,ac84,c145 hE,hr,this,simprocAttr]
 | true =>
  rw[hE.fn T84]; simp +contextual only[push_cast,ac84,c145 hE,hr,simprocAttr];split
  ·rename_i hc
   have:microOk y m d H M S u=false:=by
    simp only[Bool.or_eq_true,decide_eq_true_eq] at hc;simp only[microOk,hr,Bool.true_and,decide_eq_false_iff_not];omega
   simp +contextual only[push_cast,this,simprocAttr]
  ·rename_i hc
   have:microOk y m d H M S u=true:=by
    simp only[Bool.or_eq_true,decide_eq_true_eq] at hc;simp only[microOk,hr,Bool.true_and,decide_eq_true_eq];omega
   simp +contextual only[push_cast,this,simprocAttr];rfl
def ofF (n:Int):Int×Int×Int :=
 let n:=n+719468
 let o:=n%146097
 let y:=gO o/365
 let r:=o-sY y
 let m:=(5*r+2)/153
 let mm:=(m+2)%12+1
 let yy:=n/146097*400+y
 (if mm<=2 then yy+1 else yy,mm,r-(153*m+2)/5+1)
theorem c144 (n:Int)(h1:-719162<=n)(h2:n<=2932896):evI E lim (.func 144) [.int .i64 n] h=some (.tuple #[.agg #[.int .i64 (ofF n).1,.int .i64 (ofF n).2.1,.int .i64 (ofF n).2.2],.int .i64 0],h):=by
 have e1:daysF 1 1 1=-719162:=by decide +kernel
 have e2:daysF 9999 12 31=2932896:=by decide +kernel
 have e3:(n < -719162)=False:=by simp; omega
 have e4:(n>2932896)=False:=by simp; omega
 obtain⟨o,ho⟩:∃o,(n+719468)%146097=o:=⟨_,rfl⟩;obtain⟨y,hy⟩:∃y,(o-o/1460+o/36524-o/146096)/365=y:=⟨_,rfl⟩;obtain⟨y0,y1,r0,r1⟩:=cyc o (by omega) (by omega) y (by rw[<- hy]; rfl);simp only[sY] at r0 r1;obtain⟨r,hr⟩:∃r,o-(365*y+y/4-y/100)=r:=⟨_,rfl⟩;rw[hr] at r0 r1;obtain⟨m,hm⟩:∃m,(5*r+2)/153=m:=⟨_,rfl⟩
 have hof:ofF n=(if(m+2)%12+1<=2 then(n+719468)/146097*400+y+1 else(n+719468)/146097*400+y,(m+2)%12+1,r-(153*m+2)/5+1):=by
  simp only[ofF,gO,sY,ho,hy,hr,hm]
 rw[hof]
 by_cases hmm:(m+2)%12+1<=2
 ·rw[hE.fn T144]; simp +contextual (disch:=omega) only[push_cast,ac144,c147 hE,e1,e2,e3,e4,ho,hy,hr,hm,hmm,wrap64,Int.tdiv_eq_ediv_of_nonneg,Int.tmod_eq_emod_of_nonneg,simprocAttr]
 ·rw[hE.fn T144]; simp +contextual (disch:=omega) only[push_cast,ac144,c147 hE,e1,e2,e3,e4,ho,hy,hr,hm,hmm,wrap64,Int.tdiv_eq_ediv_of_nonneg,Int.tmod_eq_emod_of_nonneg,simprocAttr]
theorem c144_lo (n:Int)(h1:n < -719162):evI E lim (.func 144) [.int .i64 n] h=some (.tuple #[.agg #[.int .i64 0,.int .i64 0,.int .i64 0],.int .i64 6],h):=by
 have e1:daysF 1 1 1=-719162:=by decide +kernel
 rw[hE.fn T144]; simp +contextual only[push_cast,ac144,c147 hE,e1,h1,simprocAttr]
theorem c144_hi (n:Int)(h1:2932896<n):evI E lim (.func 144) [.int .i64 n] h=some (.tuple #[.agg #[.int .i64 0,.int .i64 0,.int .i64 0],.int .i64 6],h):=by
 have e1:daysF 1 1 1=-719162:=by decide +kernel
 have e2:daysF 9999 12 31=2932896:=by decide +kernel
 have e3:(n < -719162)=False:=by simp; omega
 rw[hE.fn T144]; simp +contextual only[push_cast,ac144,c147 hE,e1,e2,e3,gt_iff_lt,h1,simprocAttr]
def clockF (n:Int):Int×Int×Int×Int :=
 let s:=n%86400000000/1000000
 (s/3600,s/60%60,s%60,n%86400000000%1000000)
theorem c83 (n:Int)(h1:-62135596800000000<=n)(h2:n<253402300800000000):evI E lim (.func 83) [.int .i64 n] h =
  some (.tuple #[.agg #[.int .i64 (ofF (n/86400000000)).1,.int .i64 (ofF (n/86400000000)).2.1,.int .i64 (ofF (n/86400000000)).2.2,.int .i64 (clockF n).1,.int .i64 (clockF n).2.1,.int .i64 (clockF n).2.2.1,.int .i64 (clockF n).2.2.2],.int .i64 0],h):=by
 rw[hE.fn T83]; simp +contextual (disch:=omega) only[push_cast,ac83,c143 hE n 86400000000 (by omega) (by omega) (by omega) (by omega),c144 hE (n/86400000000) (by omega) (by omega),wrap64,Int.tdiv_eq_ediv_of_nonneg,Int.tmod_eq_emod_of_nonneg,simprocAttr];rfl
theorem c83_out (n:Int)(h0:-9223372036854775808<=n)(h3:n<=9223372036854775807)(h1:n < -62135596800000000\/253402300800000000<=n):evI E lim (.func 83) [.int .i64 n] h =
  some (.tuple #[.agg #[.int .i64 0,.int .i64 0,.int .i64 0,.int .i64 0,.int .i64 0,.int .i64 0,.int .i64 0],.int .i64 6],h):=by
 rcases h1 with h1 | h1
 ·rw[hE.fn T83]; simp +contextual (disch:=omega) only[push_cast,ac83,c143 hE n 86400000000 (by omega) (by omega) (by omega) (by omega),c144_lo hE (n/86400000000) (by omega),wrap64,Int.tdiv_eq_ediv_of_nonneg,Int.tmod_eq_emod_of_nonneg,simprocAttr]
 ·rw[hE.fn T83]; simp +contextual (disch:=omega) only[push_cast,ac83,c143 hE n 86400000000 (by omega) (by omega) (by omega) (by omega),c144_hi hE (n/86400000000) (by omega),wrap64,Int.tdiv_eq_ediv_of_nonneg,Int.tmod_eq_emod_of_nonneg,simprocAttr]
omit hE in
theorem right_in {y m d:Int} (hr:rightF y m d=true):1<=y/\y<=9999/\1<=m/\m<=12/\1<=d/\d<=31:=by
 simp only[rightF,Bool.and_eq_true,decide_eq_true_eq] at hr;unfold longF at hr
 repeat' split at hr
 all_goals omega
end
section
def sP (y:Int):Int:=y/400*146097+(y%400*365+y%400/4-y%400/100)
def daysP (y m d:Int):Int:=sP (if m<=2 then y-1 else y)+(153*((m+9)%12)+2)/5+d-1-719468
theorem daysF_eq {y m d:Int}(h1:1<=y)(h2:y<=9999)(h3:1<=m)(h4:m<=12)(h5:1<=d)(h6:d<=31):daysF y m d=daysP y m d:=by
 unfold daysF behindF daysP sP
 by_cases hm:m<=2
 ·simp(disch:=omega) only[if_pos hm,wrap64,Int.tdiv_eq_ediv_of_nonneg,Int.tmod_eq_emod_of_nonneg]
 ·simp(disch:=omega) only[if_neg hm,wrap64,Int.tdiv_eq_ediv_of_nonneg,Int.tmod_eq_emod_of_nonneg]
theorem daysP_in {y m d:Int}(h1:1<=y)(h2:y<=9999)(h3:1<=m)(h4:m<=12)(h5:1<=d)(h6:d<=31):-719900<=daysP y m d/\daysP y m d<=2933300:=by
 unfold daysP sP;split<;>omega
variable {E:Env}(hE:EnvT E){lim:Nat}{h:Hp}
include hE
def weekdayF (y m d:Int):Int:=if rightF y m d=true then(daysF y m d+3)%7+1 else 0
theorem c85 (y m d:Int):evI E lim (.func 85) [.agg #[.int .i64 y,.int .i64 m,.int .i64 d]] h=some (.int .i64 (weekdayF y m d),h):=by
 cases hr:rightF y m d with
 | false =>
  have:weekdayF y m d=0:=by simp[weekdayF,hr]
  rw[hE.fn T85]; simp +contextual only[push_cast,ac85,c146 hE,hr,this,simprocAttr]
 | true =>
  obtain⟨a1,a2,a3,a4,a5,a6⟩:=right_in hr;have e:=daysF_eq a1 a2 a3 a4 a5 a6;have⟨b1,b2⟩:=daysP_in a1 a2 a3 a4 a5 a6;rw[<- e] at b1 b2;have:weekdayF y m d=(daysF y m d+3)%7+1:=by simp[weekdayF,hr]
  rw[this];rw[hE.fn T85]; simp +contextual (disch:=omega) only[push_cast,ac85,c146 hE,hr,c147 hE,c143 hE (daysF y m d+3) 7 (by omega) (by omega) (by omega) (by omega),wrap64,Int.tdiv_eq_ediv_of_nonneg,Int.tmod_eq_emod_of_nonneg,simprocAttr]
theorem c82 (a b:Int)(ha:-9223372036854775808<=a)(ha2:a<=9223372036854775807)(hb:1<b)(hb2:b<=9223372036854775807):evI E lim (.func 82) [.int .i64 a,.int .i64 b] h=some (.int .i64 (a/b),h):=by
 have e3:(b=0)=False:=by simpa using(by omega:b≠0)
 obtain⟨d1,d2,d3,d4⟩:=div_floor (a:=a) (b:=b) (by omega);obtain⟨t1,t2⟩:=tdiv_in ha ha2 hb;have hw:=w64 (x:=a.tdiv b)
 by_cases hn:a.tmod b<0
 ·rw[if_pos hn] at d1;have w1:IntKind.i64.wrap (a.tdiv b-1)=a/b:=by rw[d1]; exact wrap64 (by omega) (by omega)
  rw[hE.fn T82]; simp +contextual only[push_cast,ac82,e3,hw,w1,hn,simprocAttr]
 ·rw[if_neg hn] at d1;rw[<- d1];rw[hE.fn T82]; simp +contextual only[push_cast,ac82,e3,hw,hn,simprocAttr]
theorem c203 (a b:Int)(ha:-9223372036854775808<=a)(ha2:a<=9223372036854775807)(hb:1<b)(hb2:b<=9223372036854775807):evI E lim (.func 203) [.int .i64 a,.int .i64 b] h=some (.int .i64 (a/b),h):=by
 have e3:(b=0)=False:=by simpa using(by omega:b≠0)
 obtain⟨d1,d2,d3,d4⟩:=div_floor (a:=a) (b:=b) (by omega);obtain⟨t1,t2⟩:=tdiv_in ha ha2 hb;have hw:=w64 (x:=a.tdiv b)
 by_cases hn:a.tmod b<0
 ·rw[if_pos hn] at d1;have w1:IntKind.i64.wrap (a.tdiv b-1)=a/b:=by rw[d1]; exact wrap64 (by omega) (by omega)
  rw[hE.fn T203]; simp +contextual only[push_cast,ac203,e3,hw,w1,hn,simprocAttr]
 ·rw[if_neg hn] at d1;rw[<- d1];rw[hE.fn T203]; simp +contextual only[push_cast,ac203,e3,hw,hn,simprocAttr]
theorem c246 (a:Int)(b:Bool):evI E lim (.func 246) [.int .i64 a,.bool b] h=some (.tuple #[.int .i64 (if b=true then a else 0),.bool b],h):=by
 cases b
 ·rw[hE.fn T246]; simp +contextual only[push_cast,ac246,simprocAttr]
 ·rw[hE.fn T246]; simp +contextual only[push_cast,ac246,simprocAttr]
def fits (n:Int):Bool:=decide (-9223372036854775808<=n/\n<=9223372036854775807)
theorem c183 (a b:Int)(ha:-9223372036854775808<=a)(ha2:a<=9223372036854775807)(hb:-9223372036854775808<=b)(hb2:b<=9223372036854775807) :
  evI E lim (.func 183) [.int .i64 a,.int .i64 b] h=some (.tuple #[.int .i64 (if fits (a+b)=true then a+b else 0),.bool (fits (a+b))],h):=by
 have hs:-9223372036854775808<=IntKind.i64.wrap (a+b)/\IntKind.i64.wrap (a+b)<=9223372036854775807:=by
  simp only[IntKind.wrap,IntKind.bits,IntKind.signed];simp;split<;>omega
 have key:(minusF a != minusF b||minusF (IntKind.i64.wrap (a+b))==minusF a)=fits (a+b):=by
  unfold fits minusF;simp only[IntKind.wrap,IntKind.bits,IntKind.signed];rw[Bool.eq_iff_iff];simp only[Bool.or_eq_true,bne_iff_ne,beq_iff_eq,decide_eq_true_eq];simp
  repeat' split
  all_goals omega
 simp only[bne] at key;rw[hE.fn T183]; simp +contextual only[push_cast,ac183,c210 hE a ha ha2,c210 hE b hb hb2,c210 hE (IntKind.i64.wrap (a+b)) hs.1 hs.2,c246 hE,key,simprocAttr];cases hf:fits (a+b) with
 | false=>rfl
 | true =>
  simp only[fits,decide_eq_true_eq] at hf;rw[wrap64 hf.1 hf.2]
theorem c61 (a s:Int):evI E lim (.func 61) [.int .i64 a,.int .i64 s] h=some (.int .i64 (if s<0 then a else min a s),h):=by
 by_cases hs:s<0
 ·rw[hE.fn T61]; simp +contextual only[push_cast,ac61,hs,simprocAttr]
 ·rw[hE.fn T61]; simp +contextual only[push_cast,ac61,hs,simprocAttr]
omit hE in
theorem u64neg {n:Int}:(IntKind.u64.wrap n<0)=False:=by
 simp only[IntKind.wrap,IntKind.bits,IntKind.signed];simp;omega
def partOk (l m:Int)(f t s:Int):Bool:=decide (f>=l)&&decide (t>=f)&&decide (t<=m)&&decide (s>=0)&&(decide (s>0)||t==f)
theorem c80 (l m u d:Int)(p:Value)(f t s:Int)(hp:flat1 p=true\/True):evI E lim (.func 80) [.agg #[.int .i64 l,.int .i64 m,.int .i64 u,.int .i64 d,p],.agg #[.int .i64 f,.int .i64 t,.int .i64 s]] h=some (.bool (partOk l m f t s),h):=by
 rw[hE.fn T80]; simp +contextual only[push_cast,ac80,simprocAttr];rfl
theorem c105 (l m u d:Int)(p:Value):evI E lim (.func 105) [.agg #[.int .i64 l,.int .i64 m,.int .i64 u,.int .i64 d,p]] h=some (.agg #[.int .i64 l,.int .i64 m,.int .i64 u],h):=by
 rw[hE.fn T105]; simp +contextual only[push_cast,ac105,simprocAttr]
theorem c195 (n f:Int)(h1:0<=f)(h2:f<=9223372036854775807):evI E lim (.func 195) [.int .i64 n,.int .i64 f] h=some (.bool (decide (n>=-f)&&decide (n<=f)),h):=by
 rw[hE.fn T195]; simp +contextual (disch:=omega) only[push_cast,ac195,Int.zero_sub,wrap64,Int.tdiv_eq_ediv_of_nonneg,Int.tmod_eq_emod_of_nonneg,simprocAttr]
theorem c259 (c:Int):evI E lim (.func 259) [.int .u8 c] h=some (.bool (decide (c>=48)&&decide (c<=57)),h):=by
 rw[hE.fn T259]; simp +contextual only[push_cast,ac259,simprocAttr]
theorem c97 (c:Int):evI E lim (.func 97) [.int .i32 c] h=some (.bool (c==32),h):=by
 rw[hE.fn T97]; simp +contextual only[push_cast,ac97,simprocAttr]
theorem c272 (c:Int):evI E lim (.func 272) [.int .i32 c] h=some (.bool (decide (c>=48)&&decide (c<=57)),h):=by
 rw[hE.fn T272]; simp +contextual only[push_cast,ac272,simprocAttr]
theorem c190 (c:Int):evI E lim (.func 190) [.int .u8 c] h=some (.bool (!(c==62)),h):=by
 rw[hE.fn T190]; simp +contextual only[push_cast,ac190,simprocAttr]
end
section
section
variable {h h1 l l':Hp}{b c n k:Nat}{x y:Blk}
theorem set_get (hlt:b<h.length):(h.set b x)[b]?=some x:=by simp[hlt]
theorem set_ne (hne:b≠c):(h.set b x)[c]?=h[c]?:=List.getElem?_set_ne hne
theorem set_old (hlt:b<h.length):(h++l).set b x=h.set b x++l:=List.set_append_left _ _ hlt
theorem get_lt (hlt:b<h.length):(h++l)[b]?=h[b]?:=List.getElem?_append_left hlt
theorem get_appC (e:h1.length=n):(h1++l)[n+k]?=l[k]?:=by rw[<- e]; exact get_app
theorem get_appC0 (e:h1.length=n):(h1++l)[n]?=l[0]?:=by rw[<- e]; exact get_app0
theorem set_appC (e:h1.length=n):(h1++l).set (n+k) x=h1++l.set k x:=by rw[<- e]; exact set_app
theorem set_appC0 (e:h1.length=n):(h1++l).set n x=h1++l.set 0 x:=by rw[<- e]; exact set_app0
theorem take_appC (e:h1.length=n):(h1++l).take n=h1:=by rw[<- e]; exact take_app
theorem take_allC (e:h1.length=n):h1.take n=h1:=by rw[<- e]; simp
theorem take_set (h:Hp)(b:Nat)(x:Blk):(h.set b x).take h.length=h.set b x:=by
 rw[show h.length=(h.set b x).length by simp,List.take_length]
theorem lt_of_get {k:Blk}(e:h[b]?=some k):b<h.length:=(List.getElem?_eq_some_iff.1 e).1
theorem set_same {k:Blk}(e:h[b]?=some k):h.set b k=h:=by
 obtain⟨h1,h2⟩:=List.getElem?_eq_some_iff.1 e;rw[<- h2]; simp
end
def Post (r:Option (AX×Fr×Hp))(P:AX->Fr->Hp->Prop):Prop:=match r with
 | some (x,f,h)=>P x f h
 | none=>False
def PostL (r:Option (Fr×Hp))(P:Fr->Hp->Prop):Prop:=match r with
 | some (f,h)=>P f h
 | none=>False
def PostV (r:Option (Value×Hp))(P:Value->Hp->Prop):Prop:=match r with
 | some (v,h)=>P v h
 | none=>False
theorem post_some {x:AX}{f:Fr}{h:Hp}{P:AX->Fr->Hp->Prop}:Post (some (x,f,h)) P=P x f h:=rfl
theorem postL_some {f:Fr}{h:Hp}{P:Fr->Hp->Prop}:PostL (some (f,h)) P=P f h:=rfl
theorem postV_some {v:Value}{h:Hp}{P:Value->Hp->Prop}:PostV (some (v,h)) P=P v h:=rfl
theorem Post.mono {r:Option (AX×Fr×Hp)}{P Q:AX->Fr->Hp->Prop}(h:Post r P)(hq:∀x f h,P x f h->Q x f h):Post r Q:=by
 match r,h with
 | some (x,f,h),hp=>exact hq x f h hp
theorem PostV.mono {r:Option (Value×Hp)}{P Q:Value->Hp->Prop}(h:PostV r P)(hq:∀v h,P v h->Q v h):PostV r Q:=by
 match r,h with
 | some (v,h),hp=>exact hq v h hp
theorem PostV.out {r:Option (Value×Hp)}{P:Value->Hp->Prop}(h:PostV r P):∃v h,r=some (v,h)/\P v h:=by
 match r,h with
 | some (v,h),hp=>exact⟨v,h,rfl,hp⟩
theorem PostV.of {r:Option (Value×Hp)}{v:Value}{h:Hp}(e:r=some (v,h)){P:Value->Hp->Prop}(hp:P v h):PostV r P:=by rw[e]; exact hp
theorem PostV.eq {r:Option (Value×Hp)}{v:Value}{h:Hp}(hp:PostV r fun v' h'=>v'=v/\h'=h):r=some (v,h):=by
 obtain⟨v',h',e,rfl,rfl⟩:=hp.out;exact e
def seqP (E:Env)(lim:Nat)(b:AC)(P:AX->Fr->Hp->Prop)(x:AX)(f:Fr)(h:Hp):Prop:=match x with
 | .norm=>Post (evK E lim b f h) P
 | x=>P x f h
def blkP (id:Nat)(P:AX->Fr->Hp->Prop)(x:AX)(f:Fr)(h:Hp):Prop:=match x with
 | .exit i=>if i=id then P .norm f h else P (.exit i) f h
 | x=>P x f h
def retP (keep:Bool)(h0:Hp)(res:List ARes)(R:Value->Hp->Prop)(x:AX)(f:Fr)(h:Hp):Prop:=match x with
 | .exit _=>False
 | _=>PostV (match resV f h res with | some v=>leave keep h0 h v | none=>none) R
def norP (P:AX->Fr->Hp->Prop)(f:Fr)(h:Hp):Prop:=P .norm f h
def runP (call:CallT)(lim:Nat)(l:List AI)(Q:Fr->Hp->Prop)(f:Fr)(h:Hp):Prop:=PostL (runL call lim l f h) Q
def putP (d:Option Nat)(f:Fr)(Q:Fr->Hp->Prop)(v:Value)(h:Hp):Prop:=Q (put f d v) h
theorem seqP_norm {E:Env}{lim:Nat}{b:AC}{P:AX->Fr->Hp->Prop}{f:Fr}{h:Hp}:seqP E lim b P .norm f h=Post (evK E lim b f h) P:=rfl
theorem seqP_ret {E:Env}{lim:Nat}{b:AC}{P:AX->Fr->Hp->Prop}{f:Fr}{h:Hp}:seqP E lim b P .ret f h=P .ret f h:=rfl
theorem seqP_exit {E:Env}{lim:Nat}{b:AC}{P:AX->Fr->Hp->Prop}{i:Nat}{f:Fr}{h:Hp}:seqP E lim b P (.exit i) f h=P (.exit i) f h:=rfl
theorem blkP_norm {id:Nat}{P:AX->Fr->Hp->Prop}{f:Fr}{h:Hp}:blkP id P .norm f h=P .norm f h:=rfl
theorem blkP_ret {id:Nat}{P:AX->Fr->Hp->Prop}{f:Fr}{h:Hp}:blkP id P .ret f h=P .ret f h:=rfl
theorem blkP_exit {id i:Nat}{P:AX->Fr->Hp->Prop}{f:Fr}{h:Hp}:blkP id P (.exit i) f h=if i=id then P .norm f h else P (.exit i) f h:=rfl
theorem retP_norm {keep:Bool}{h0:Hp}{res:List ARes}{R:Value->Hp->Prop}{f:Fr}{h:Hp}:retP keep h0 res R .norm f h=PostV (match resV f h res with | some v=>leave keep h0 h v | none=>none) R:=rfl
theorem retP_ret {keep:Bool}{h0:Hp}{res:List ARes}{R:Value->Hp->Prop}{f:Fr}{h:Hp}:retP keep h0 res R .ret f h=PostV (match resV f h res with | some v=>leave keep h0 h v | none=>none) R:=rfl
theorem norP_eq {P:AX->Fr->Hp->Prop}{f:Fr}{h:Hp}:norP P f h=P .norm f h:=rfl
theorem runP_eq {call:CallT}{lim:Nat}{l:List AI}{Q:Fr->Hp->Prop}{f:Fr}{h:Hp}:runP call lim l Q f h=PostL (runL call lim l f h) Q:=rfl
theorem putP_eq {d:Nat}{f:Fr}{Q:Fr->Hp->Prop}{v:Value}{h:Hp}:putP (some d) f Q v h=Q (f.st d v) h:=rfl
theorem putP_none {f:Fr}{Q:Fr->Hp->Prop}{v:Value}{h:Hp}:putP none f Q v h=Q f h:=rfl
theorem post_seqK {E:Env}{lim:Nat}{b:AC}{r:Option (AX×Fr×Hp)}{P:AX->Fr->Hp->Prop}:Post (seqK E lim b r) P=Post r (seqP E lim b P):=by
 match r with
 | none=>rfl
 | some (.norm,f,h)=>rfl
 | some (.exit i,f,h)=>rfl
 | some (.ret,f,h)=>rfl
theorem post_blockK {id:Nat}{r:Option (AX×Fr×Hp)}{P:AX->Fr->Hp->Prop}:Post (blockK id r) P=Post r (blkP id P):=by
 match r with
 | none=>rfl
 | some (.norm,f,h)=>rfl
 | some (.ret,f,h)=>rfl
 | some (.exit i,f,h) =>
  simp only[blockK,post_some,blkP];split<;>rfl
theorem post_retK {keep:Bool}{h0:Hp}{res:List ARes}{r:Option (AX×Fr×Hp)}{R:Value->Hp->Prop}:PostV (retK keep h0 res r) R=Post r (retP keep h0 res R):=by
 match r with
 | none=>rfl
 | some (.norm,f,h)=>rfl
 | some (.ret,f,h)=>rfl
 | some (.exit i,f,h)=>rfl
theorem post_afterL {r:Option (Fr×Hp)}{P:AX->Fr->Hp->Prop}:Post (afterL r) P=PostL r (norP P):=by
 match r with
 | none=>rfl
 | some (f,h)=>rfl
theorem post_nextL {call:CallT}{lim:Nat}{l:List AI}{r:Option (Fr×Hp)}{Q:Fr->Hp->Prop}:PostL (nextL call lim l r) Q=PostL r (runP call lim l Q):=by
 match r with
 | none=>rfl
 | some (f,h)=>rfl
theorem post_putR {d:Option Nat}{f:Fr}{r:Option (Value×Hp)}{Q:Fr->Hp->Prop}:PostL (putR d f r) Q=PostV r (putP d f Q):=by
 match r with
 | none=>rfl
 | some (v,h)=>rfl
theorem post_if {c:Prop}[Decidable c]{a b:Option (AX×Fr×Hp)}{P:AX->Fr->Hp->Prop}:Post (if c then a else b) P=if c then Post a P else Post b P:=by split<;>rfl
def lopP (I:Nat->Fr->Hp->Prop)(k:Nat)(P:AX->Fr->Hp->Prop)(x:AX)(f:Fr)(h:Hp):Prop:=match x with
 | .norm=>∃k',k'<k/\I k' f h
 | x=>P x f h
theorem lopP_norm {I:Nat->Fr->Hp->Prop}{k:Nat}{P:AX->Fr->Hp->Prop}{f:Fr}{h:Hp}:lopP I k P .norm f h=∃k',k'<k/\I k' f h:=rfl
theorem lopP_exit {I:Nat->Fr->Hp->Prop}{k i:Nat}{P:AX->Fr->Hp->Prop}{f:Fr}{h:Hp}:lopP I k P (.exit i) f h=P (.exit i) f h:=rfl
theorem lopP_ret {I:Nat->Fr->Hp->Prop}{k:Nat}{P:AX->Fr->Hp->Prop}{f:Fr}{h:Hp}:lopP I k P .ret f h=P .ret f h:=rfl
theorem loop_post {E:Env}(hM:EnvMono E){lim:Nat}{a:AC}{P:AX->Fr->Hp->Prop}(I:Nat->Fr->Hp->Prop)(step:∀k f h,I k f h->Post (evK E lim a f h) (lopP I k P)):∀(k:Nat) (f:Fr) (h:Hp),I k f h->Post (evK E lim (.loop a) f h) P:=by
 intro k
 induction k using Nat.strongRecOn with
 | _ k ih =>
  intro f h hI;have hs:=step k f h hI;rw[evK_loop' hM,post_seqK];refine hs.mono fun x f1 h1 hp=>?_;cases x with
  | norm =>
   obtain⟨k',hk,hI'⟩:=hp;exact ih k' hk f1 h1 hI'
  | exit i=>exact hp
  | ret=>exact hp
theorem bool_ft:(false==true)=false:=rfl
theorem bool_tf:(true==false)=false:=rfl
theorem bool_ff:(false==false)=true:=rfl
theorem bool_tt:(true==true)=true:=rfl
attribute [push_cast] bool_ft bool_tf bool_ff bool_tt post_some postL_some postV_some seqP_norm seqP_ret seqP_exit blkP_norm blkP_ret blkP_exit retP_norm retP_ret norP_eq runP_eq putP_eq putP_none post_seqK post_blockK post_retK post_afterL post_nextL post_putR lopP_norm lopP_exit lopP_ret
end
section
variable {E:Env}(hE:EnvT E){lim:Nat}{h:Hp}
include hE
def rotF (a k:Int):Int:=IntKind.u64.wrap ↑(BitVec.ofInt 64 (IntKind.u64.wrap (a*2 ^ min (IntKind.u64.wrap ↑(BitVec.ofInt 64 (IntKind.u64.wrap k)&&&BitVec.ofInt 64 63).toNat).toNat 64)) |||
 BitVec.ofInt 64 (a.fdiv (2 ^ min (IntKind.u64.wrap (64-IntKind.u64.wrap ↑(BitVec.ofInt 64 (IntKind.u64.wrap k)&&&BitVec.ofInt 64 63).toNat)).toNat 64))).toNat
theorem c170r (a k:Int):evI E lim (.func 170) [.int .u64 a,.int .i64 k] h=some (.int .u64 (rotF a k),h):=by
 rw[hE.fn T170]; simp +contextual only[push_cast,ac170,u64neg,simprocAttr];rfl
theorem c110 (b0 b1 b2 b3 b4 b5 b6 b7:Int):∃n,evI E lim (.func 110) [.agg #[.int .u8 b0,.int .u8 b1,.int .u8 b2,.int .u8 b3,.int .u8 b4,.int .u8 b5,.int .u8 b6,.int .u8 b7]] h=some (.int .u64 (IntKind.u64.wrap n),h):=by
 rw[hE.fn T110]; simp +contextual (disch:=omega) only[push_cast,ac110,evK_loop' hE.mono,lp110_0,wrap64,Int.tdiv_eq_ediv_of_nonneg,Int.tmod_eq_emod_of_nonneg,simprocAttr];exact⟨_,rfl⟩
theorem c110p (b0 b1 b2 b3 b4 b5 b6 b7:Int):PostV (evI E lim (.func 110) [.agg #[.int .u8 b0,.int .u8 b1,.int .u8 b2,.int .u8 b3,.int .u8 b4,.int .u8 b5,.int .u8 b6,.int .u8 b7]] h) fun v h'=>h'=h/\∃n,v=.int .u64 (IntKind.u64.wrap n):=by
 obtain⟨n,e⟩:=c110 hE (lim:=lim) (h:=h) b0 b1 b2 b3 b4 b5 b6 b7;exact PostV.of e ⟨rfl,n,rfl⟩
def q4 (A B C D:Int)(rest:List Value):Blk:=.cells true (.int .u64 A::.int .u64 B::.int .u64 C::.int .u64 D::rest)
theorem round112 {b:Nat}{f:Fr}{H:Hp}{A B C D:Int}{rest:List Value}{n k:Int}(f0:f.rd 0=.pointer (some ⟨b,0,none⟩))(f4:f.rd 4=.int .i64 n)(f5:f.rd 5=.int .i64 k)(hk:0<=k)(hn:n<=100)(hkn:k<n)(hb:H[b]?=some (q4 A B C D rest)) :
  Post (evK E lim lp112_0 f H) fun x f' H'=>x=.norm/\f'.rd 0=.pointer (some ⟨b,0,none⟩)/\f'.rd 4=.int .i64 n/\f'.rd 5=.int .i64 (k+1)/\∃A' B' C' D',H'=H.set b (q4 A' B' C' D' rest):=by
 have hlt:=lt_of_get hb;unfold q4 at hb ⊢;simp +contextual (disch:=omega) only[push_cast,lp112_0,f0,f4,f5,hb,c170r hE,set_get hlt,hkn,wrap64,Int.tdiv_eq_ediv_of_nonneg,Int.tmod_eq_emod_of_nonneg,simprocAttr];exact⟨_,_,_,_,rfl⟩
theorem c112 {b:Nat}{A B C D:Int}{rest:List Value}{n:Int}(hn:n<=100)(hb:h[b]?=some (q4 A B C D rest)) :
  PostV (evI E lim (.func 112) [.pointer (some ⟨b,0,none⟩),.int .i64 n] h) fun v h'=>v=undef/\∃A' B' C' D',h'=h.set b (q4 A' B' C' D' rest):=by
 have hlt:=lt_of_get hb;rw[hE.fn T112]; simp +contextual only[push_cast,ac112,simprocAttr];refine loop_post hE.mono (fun k f H=>∃(i:Int) (A B C D:Int),0<=i/\(n-i).toNat=k/\f.rd 0=.pointer (some ⟨b,0,none⟩)/\f.rd 4=.int .i64 n/\f.rd 5=.int .i64 i/\H=h.set b (q4 A B C D rest)) ?_ n.toNat _ _ ?_
 ·rintro k f H ⟨i,A,B,C,D,h0,hk,f0,f4,f5,rfl⟩
  by_cases hi:i<n
  ·refine(round112 hE f0 f4 f5 h0 hn hi (set_get hlt)).mono ?_;rintro x f' H' ⟨rfl,g0,g4,g5,A',B',C',D',rfl⟩;exact⟨(n-(i+1)).toNat,by omega,i+1,A',B',C',D',by omega,rfl,g0,g4,g5,by rw[List.set_set]⟩
  ·simp +contextual only[push_cast,lp112_0,f4,f5,hi,take_set,simprocAttr];exact⟨rfl,_,_,_,_,rfl⟩
 ·exact⟨0,A,B,C,D,Int.le_refl _,by simp,rfl,rfl,rfl,(set_same hb).symm⟩
theorem c111 {b:Nat}{A B C D m:Int}{rest:List Value}(hb:h[b]?=some (q4 A B C D rest)) :
  PostV (evI E lim (.func 111) [.pointer (some ⟨b,0,none⟩),.int .u64 m] h) fun v h'=>v=undef/\∃A' B' C' D',h'=h.set b (q4 A' B' C' D' rest):=by
 have hlt:=lt_of_get hb;have hb':=hb;unfold q4 at hb';rw[hE.fn T111]; simp +contextual only[push_cast,ac111,hb',set_get hlt,simprocAttr];refine(c112 hE (by omega) (set_get hlt)).mono ?_;rintro v h' ⟨rfl,A',B',C',D',rfl⟩;simp +contextual only[push_cast,q4,set_get hlt,take_set,simprocAttr];exact⟨rfl,_,_,_,_,rfl⟩
def hashB (l0 l1 l2 l3 l4 l5 l6 l7 m:Int):List Value:=[.int .u8 l0,.int .u8 l1,.int .u8 l2,.int .u8 l3,.int .u8 l4,.int .u8 l5,.int .u8 l6,.int .u8 l7,.int .i64 m]
theorem c58 (k0 k1 k2 k3 k4 k5 k6 k7 k8 k9 k10 k11 k12 k13 k14 k15:Int):PostV (evI E lim (.func 58) [.agg #[.int .u8 k0,.int .u8 k1,.int .u8 k2,.int .u8 k3,.int .u8 k4,.int .u8 k5,.int .u8 k6,.int .u8 k7,.int .u8 k8,.int .u8 k9,.int .u8 k10,.int .u8 k11,.int .u8 k12,.int .u8 k13,.int .u8 k14,.int .u8 k15]] h) fun v h'=>v=.pointer (some ⟨h.length+1,0,none⟩) /\
  ∃A B C D,h'=h++[.cells true [.int .u8 k0,.int .u8 k1,.int .u8 k2,.int .u8 k3,.int .u8 k4,.int .u8 k5,.int .u8 k6,.int .u8 k7,.int .u8 k8,.int .u8 k9,.int .u8 k10,.int .u8 k11,.int .u8 k12,.int .u8 k13,.int .u8 k14,.int .u8 k15],q4 A B C D (hashB 0 0 0 0 0 0 0 0 0)]:=by
 obtain⟨n,hn⟩:=c110 hE (lim:=lim) (h:=h++[.cells true [.int .u8 k0,.int .u8 k1,.int .u8 k2,.int .u8 k3,.int .u8 k4,.int .u8 k5,.int .u8 k6,.int .u8 k7,.int .u8 k8,.int .u8 k9,.int .u8 k10,.int .u8 k11,.int .u8 k12,.int .u8 k13,.int .u8 k14,.int .u8 k15]]) k0 k1 k2 k3 k4 k5 k6 k7;obtain⟨n',hn'⟩:=c110 hE (lim:=lim) (h:=h++[.cells true [.int .u8 k0,.int .u8 k1,.int .u8 k2,.int .u8 k3,.int .u8 k4,.int .u8 k5,.int .u8 k6,.int .u8 k7,.int .u8 k8,.int .u8 k9,.int .u8 k10,.int .u8 k11,.int .u8 k12,.int .u8 k13,.int .u8 k14,.int .u8 k15]]) k8 k9 k10 k11 k12 k13 k14 k15;rw[hE.fn T58]; simp +contextual only[push_cast,ac58,hn,hn',bound,Option.map_none,sureL,simprocAttr];exact⟨_,_,_,_,rfl⟩
theorem round59 {b sb:Nat}{f:Fr}{H:Hp}{A B C D l0 l1 l2 l3 l4 l5 l6 l7:Int}{own:Bool}{bs:List Value}{i:Int}(hne:b≠sb)(f0:f.rd 0=.pointer (some ⟨b,0,none⟩))(f8:f.rd 8=.slice (some ⟨sb,0,none⟩) bs.length 1)(f9:f.rd 9=.int .i64 bs.length)(f10:f.rd 10=.int .i64 i)
  (hi:0<=i)(hn:i<bs.length)(hl:bs.length<1000000000)(hb:H[b]?=some (q4 A B C D (hashB l0 l1 l2 l3 l4 l5 l6 l7 i)))(hs:H[sb]?=some (.cells own bs))(hbs:∀j,j<bs.length->∃n,bs[j]?=some (.int .u8 n)) :
  Post (evK E lim lp59_0 f H) fun x f' H'=>x=.norm/\f'.rd 0=.pointer (some ⟨b,0,none⟩)/\f'.rd 8=.slice (some ⟨sb,0,none⟩) bs.length 1/\f'.rd 9=.int .i64 bs.length/\f'.rd 10=.int .i64 (i+1) /\
   ∃A B C D l0 l1 l2 l3 l4 l5 l6 l7,H'=H.set b (q4 A B C D (hashB l0 l1 l2 l3 l4 l5 l6 l7 (i+1))):=by
 have hlt:=lt_of_get hb;obtain⟨n,hbn⟩:=hbs i.toNat (by omega);have e1:(i.toNat<bs.length)=True:=by simp; omega
 have e2:(0<=i)=True:=by simp[hi]
 have e3:i.tmod 8=i%8:=Int.tmod_eq_emod_of_nonneg hi;have e4:(i+1).tmod 8=(i+1)%8:=Int.tmod_eq_emod_of_nonneg (by omega);unfold q4 hashB at hb ⊢;have h8:i%8=0\/i%8=1\/i%8=2\/i%8=3\/i%8=4\/i%8=5\/i%8=6\/i%8=7:=by omega
 rcases h8 with h8 | h8 | h8 | h8 | h8 | h8 | h8 | h8
 all_goals
  have h9:=h8;rw[<- e3] at h8
 ·have h10:(i+1).tmod 8=1:=by omega
  clear e3 e4 h9;simp +contextual (disch:=omega) only[push_cast,lp59_0,f0,f8,f9,f10,hb,hs,hbn,set_get hlt,set_ne hne,h8,h10,hn,e2,Nat.mul_one,wrap64,Int.tdiv_eq_ediv_of_nonneg,Int.tmod_eq_emod_of_nonneg,simprocAttr];exact⟨_,_,_,_,_,_,_,_,_,_,_,_,rfl⟩
 ·have h10:(i+1).tmod 8=2:=by omega
  clear e3 e4 h9;simp +contextual (disch:=omega) only[push_cast,lp59_0,f0,f8,f9,f10,hb,hs,hbn,set_get hlt,set_ne hne,h8,h10,hn,e2,Nat.mul_one,wrap64,Int.tdiv_eq_ediv_of_nonneg,Int.tmod_eq_emod_of_nonneg,simprocAttr];exact⟨_,_,_,_,_,_,_,_,_,_,_,_,rfl⟩
 ·have h10:(i+1).tmod 8=3:=by omega
  clear e3 e4 h9;simp +contextual (disch:=omega) only[push_cast,lp59_0,f0,f8,f9,f10,hb,hs,hbn,set_get hlt,set_ne hne,h8,h10,hn,e2,Nat.mul_one,wrap64,Int.tdiv_eq_ediv_of_nonneg,Int.tmod_eq_emod_of_nonneg,simprocAttr];exact⟨_,_,_,_,_,_,_,_,_,_,_,_,rfl⟩
 ·have h10:(i+1).tmod 8=4:=by omega
  clear e3 e4 h9;simp +contextual (disch:=omega) only[push_cast,lp59_0,f0,f8,f9,f10,hb,hs,hbn,set_get hlt,set_ne hne,h8,h10,hn,e2,Nat.mul_one,wrap64,Int.tdiv_eq_ediv_of_nonneg,Int.tmod_eq_emod_of_nonneg,simprocAttr];exact⟨_,_,_,_,_,_,_,_,_,_,_,_,rfl⟩
 ·have h10:(i+1).tmod 8=5:=by omega
  clear e3 e4 h9;simp +contextual (disch:=omega) only[push_cast,lp59_0,f0,f8,f9,f10,hb,hs,hbn,set_get hlt,set_ne hne,h8,h10,hn,e2,Nat.mul_one,wrap64,Int.tdiv_eq_ediv_of_nonneg,Int.tmod_eq_emod_of_nonneg,simprocAttr];exact⟨_,_,_,_,_,_,_,_,_,_,_,_,rfl⟩
 ·have h10:(i+1).tmod 8=6:=by omega
  clear e3 e4 h9;simp +contextual (disch:=omega) only[push_cast,lp59_0,f0,f8,f9,f10,hb,hs,hbn,set_get hlt,set_ne hne,h8,h10,hn,e2,Nat.mul_one,wrap64,Int.tdiv_eq_ediv_of_nonneg,Int.tmod_eq_emod_of_nonneg,simprocAttr];exact⟨_,_,_,_,_,_,_,_,_,_,_,_,rfl⟩
 ·have h10:(i+1).tmod 8=7:=by omega
  clear e3 e4 h9;simp +contextual (disch:=omega) only[push_cast,lp59_0,f0,f8,f9,f10,hb,hs,hbn,set_get hlt,set_ne hne,h8,h10,hn,e2,Nat.mul_one,wrap64,Int.tdiv_eq_ediv_of_nonneg,Int.tmod_eq_emod_of_nonneg,simprocAttr];exact⟨_,_,_,_,_,_,_,_,_,_,_,_,rfl⟩
 ·have h10:(i+1).tmod 8=0:=by omega
  clear e3 e4 h9;obtain⟨nn,hnn⟩:=c110 hE (lim:=lim) (h:=H.set b (.cells true [.int .u64 A,.int .u64 B,.int .u64 C,.int .u64 D,.int .u8 l0,.int .u8 l1,.int .u8 l2,.int .u8 l3,.int .u8 l4,.int .u8 l5,.int .u8 l6,.int .u8 n,.int .i64 (i+1)])) l0 l1 l2 l3 l4 l5 l6 n;simp +contextual (disch:=omega) only[push_cast,lp59_0,f0,f8,f9,f10,hb,hs,hbn,set_get hlt,set_ne hne,h8,h10,hn,e2,Nat.mul_one,hnn,wrap64,Int.tdiv_eq_ediv_of_nonneg,Int.tmod_eq_emod_of_nonneg,simprocAttr];refine(c111 hE (by rw[set_get hlt]; rfl)).mono ?_;rintro v h' ⟨rfl,A',B',C',D',rfl⟩;simp +contextual (disch:=omega) only[push_cast,f0,f8,f9,f10,q4,wrap64,Int.tdiv_eq_ediv_of_nonneg,Int.tmod_eq_emod_of_nonneg,simprocAttr];exact⟨_,_,_,_,_,_,_,_,_,_,_,_,rfl⟩
theorem c59 {b sb:Nat}{A B C D:Int}{own:Bool}{bs:List Value}(hne:b≠sb)(hl:bs.length<1000000000)(hb:h[b]?=some (q4 A B C D (hashB 0 0 0 0 0 0 0 0 0)))(hs:h[sb]?=some (.cells own bs))(hbs:∀j,j<bs.length->∃n,bs[j]?=some (.int .u8 n)) :
  PostV (evI E lim (.func 59) [.pointer (some ⟨b,0,none⟩),.slice (some ⟨sb,0,none⟩) bs.length 1] h) fun v h'=>v=undef/\∃A B C D l0 l1 l2 l3 l4 l5 l6 l7,h'=h.set b (q4 A B C D (hashB l0 l1 l2 l3 l4 l5 l6 l7 bs.length)):=by
 have hlt:=lt_of_get hb;rw[hE.fn T59]; simp +contextual only[push_cast,ac59,simprocAttr];refine loop_post hE.mono (fun k f H=>∃(i A B C D l0 l1 l2 l3 l4 l5 l6 l7:Int),0<=i/\i<=bs.length/\(bs.length-i).toNat=k/\f.rd 0=.pointer (some ⟨b,0,none⟩)/\f.rd 8=.slice (some ⟨sb,0,none⟩) bs.length 1/\f.rd 9=.int .i64 bs.length/\f.rd 10=.int .i64 i/\H=h.set b (q4 A B C D (hashB l0 l1 l2 l3 l4 l5 l6 l7 i))) ?_ bs.length _ _ ?_
 ·rintro k f H ⟨i,A,B,C,D,l0,l1,l2,l3,l4,l5,l6,l7,h0,h1,hk,f0,f8,f9,f10,rfl⟩
  by_cases hi:i<bs.length
  ·refine(round59 hE hne f0 f8 f9 f10 h0 hi hl (set_get hlt) (by rw[set_ne hne]; exact hs) hbs).mono ?_;rintro x f' H' ⟨rfl,g0,g8,g9,g10,A,B,C,D,l0,l1,l2,l3,l4,l5,l6,l7,rfl⟩;exact⟨(bs.length-(i+1)).toNat,by omega,i+1,_,_,_,_,_,_,_,_,_,_,_,_,by omega,by omega,rfl,g0,g8,g9,g10,by rw[List.set_set]⟩
  ·have:i=bs.length:=by omega
   subst this;simp +contextual only[push_cast,lp59_0,f9,f10,Int.lt_irrefl,take_set,simprocAttr];exact⟨rfl,_,_,_,_,_,_,_,_,_,_,_,_,rfl⟩
 ·exact⟨0,A,B,C,D,0,0,0,0,0,0,0,0,Int.le_refl _,by omega,by simp,rfl,rfl,rfl,rfl,(set_same hb).symm⟩
theorem c60 {b:Nat}{A B C D l0 l1 l2 l3 l4 l5 l6 l7 m:Int}(hm:0<=m)(hb:h[b]?=some (q4 A B C D (hashB l0 l1 l2 l3 l4 l5 l6 l7 m))) :
  PostV (evI E lim (.func 60) [.pointer (some ⟨b,0,none⟩)] h) fun v h'=>h'=h/\∃n,v=.int .u64 (IntKind.u64.wrap n):=by
 have hlt:=lt_of_get hb;have e3:m.tmod 8=m%8:=Int.tmod_eq_emod_of_nonneg hm;unfold q4 hashB at hb;have m0:min 0 8=0:=by decide
 have m1:min 1 8=1:=by decide
 have m2:min 2 8=2:=by decide
 have m3:min 3 8=3:=by decide
 have m4:min 4 8=4:=by decide
 have m5:min 5 8=5:=by decide
 have m6:min 6 8=6:=by decide
 have m7:min 7 8=7:=by decide
 have h8:m%8=0\/m%8=1\/m%8=2\/m%8=3\/m%8=4\/m%8=5\/m%8=6\/m%8=7:=by omega
 rcases h8 with h8 | h8 | h8 | h8 | h8 | h8 | h8 | h8
 all_goals
  rw[<- e3] at h8;rw[hE.fn T60]; simp +contextual only[push_cast,ac60,get_lt hlt,hb,h8,bound,Option.map_none,srcOf,m0,m1,m2,m3,m4,m5,m6,m7,Nat.mul_one,simprocAttr];refine(c110p hE _ _ _ _ _ _ _ _).mono ?_;rintro v h' ⟨rfl,n,rfl⟩;simp +contextual only[push_cast,simprocAttr];refine(c111 hE (by rw[get_app0]; rfl)).mono ?_;rintro v h' ⟨rfl,A',B',C',D',rfl⟩;simp +contextual only[push_cast,q4,simprocAttr];refine(c112 hE (by decide) (by rw[get_app0]; rfl)).mono ?_;rintro v h' ⟨rfl,A',B',C',D',rfl⟩;simp +contextual only[push_cast,q4,simprocAttr];exact⟨_,rfl⟩
theorem c19_0 (k0 k1 k2 k3 k4 k5 k6 k7 k8 k9 k10 k11 k12 k13 k14 k15:Int)(s:ByteArray)(r:Int)(hr:r<1):evI E lim (.func 19) [.agg #[.int .u8 k0,.int .u8 k1,.int .u8 k2,.int .u8 k3,.int .u8 k4,.int .u8 k5,.int .u8 k6,.int .u8 k7,.int .u8 k8,.int .u8 k9,.int .u8 k10,.int .u8 k11,.int .u8 k12,.int .u8 k13,.int .u8 k14,.int .u8 k15],.string s,.int .i64 r] h=some (.int .i64 0,h):=by
 rw[hE.fn T19]; simp +contextual only[push_cast,ac19,hr,simprocAttr]
theorem c19 (k0 k1 k2 k3 k4 k5 k6 k7 k8 k9 k10 k11 k12 k13 k14 k15:Int)(s:ByteArray)(r:Int)(hr:1<=r)(hr2:r<=9223372036854775807)(hs:s.size<1000000000):PostV (evI E lim (.func 19) [.agg #[.int .u8 k0,.int .u8 k1,.int .u8 k2,.int .u8 k3,.int .u8 k4,.int .u8 k5,.int .u8 k6,.int .u8 k7,.int .u8 k8,.int .u8 k9,.int .u8 k10,.int .u8 k11,.int .u8 k12,.int .u8 k13,.int .u8 k14,.int .u8 k15],.string s,.int .i64 r] h) fun v h'=>h'=h/\∃n,v=.int .i64 n/\0<=n/\n<r:=by
 have hr1:(r<1)=False:=by simp; omega
 rw[hE.fn T19]; simp +contextual only[push_cast,ac19,hr1,simprocAttr];refine(c58 hE _ _ _ _ _ _ _ _ _ _ _ _ _ _ _ _).mono ?_;rintro v h' ⟨rfl,A,B,C,D,rfl⟩;simp +contextual only[push_cast,Nat.add_assoc,simprocAttr];have hlen:(s.data.toList.map fun b=>Value.int .u8 b.toNat).length=s.size:=by rw[List.length_map,Array.length_toList]; rfl
 have key:=fun H hb hs'=>c59 hE (lim:=h.length) (h:=H) (b:=h.length+2) (sb:=h.length+3) (A:=A) (B:=B) (C:=C) (D:=D) (own:=true) (bs:=s.data.toList.map fun b=>Value.int .u8 b.toNat) (by omega) (by rw[hlen]; exact hs) hb hs' (fun j hj=>by
  rw[List.length_map] at hj;exact⟨_,by rw[List.getElem?_map,List.getElem?_eq_getElem hj]; rfl⟩)
 rw[hlen] at key;refine(key _ (by rw[get_app]; rfl) (by rw[get_app]; rfl)).mono ?_;rintro v h' ⟨rfl,A',B',C',D',l0,l1,l2,l3,l4,l5,l6,l7,rfl⟩;simp +contextual only[push_cast,simprocAttr];refine(c60 hE (m:=s.size) (by omega) (by rw[get_app]; rfl)).mono ?_;rintro v h' ⟨rfl,n,rfl⟩
 have w1:IntKind.u64.wrap r=r:=by
  simp only[IntKind.wrap,IntKind.bits,IntKind.signed];simp;omega
 have w2:(r=0)=False:=by simp; omega
 have w3:0<=IntKind.u64.wrap n:=by have:=u64neg (n:=n); simp at this; omega
 have w4:=Int.tmod_eq_emod_of_nonneg (b:=r) w3;have w5:=Int.emod_nonneg (IntKind.u64.wrap n) (by omega:r≠0);have w6:=Int.emod_lt_of_pos (IntKind.u64.wrap n) (by omega:0<r)
 have w7:IntKind.u64.wrap (IntKind.u64.wrap n%r)=IntKind.u64.wrap n%r:=by
  simp only[IntKind.wrap,IntKind.bits,IntKind.signed] at *;simp at *;omega
 have w8:=w64 (x:=IntKind.u64.wrap n%r);simp +contextual only[push_cast,w1,w2,w4,w7,w8,simprocAttr];exact⟨_,rfl,w5,w6⟩
def aroundF (d l a:Int):Bool:=decide (0<=d/\0<=l/\0<=a/\d+l<=9223372036854775807/\d+l+a<=9223372036854775807)
theorem c120 (d l a:Int)(h1:-9223372036854775808<=d)(h2:d<=9223372036854775807)(h3:-9223372036854775808<=l)(h4:l<=9223372036854775807)(h5:-9223372036854775808<=a)(h6:a<=9223372036854775807) :
  evI E lim (.func 120) [.int .i64 d,.int .i64 l,.int .i64 a] h=some (.tuple #[.agg #[.int .i64 (if aroundF d l a=true then d+l else 0),.int .i64 (if aroundF d l a=true then d+l+a else 0)],.bool (aroundF d l a)],h):=by
 by_cases hm:min (min d l) a<0
 ·have e:aroundF d l a=false:=by simp only[aroundF,decide_eq_false_iff_not]; omega
  rw[hE.fn T120]; simp +contextual only[push_cast,ac120,hm,e,simprocAttr]
 ·have c1:=c183 hE (lim:=h.length) (h:=h++[.cells true [.int .i64 0,.int .i64 0]]) d l h1 h2 h3 h4;cases hf:fits (d+l) with
  | false =>
   have e:aroundF d l a=false:=by simp only[aroundF,fits,decide_eq_false_iff_not] at *; omega
   have c2:=c183 hE (lim:=h.length) (h:=h++[.cells true [.int .i64 0,.int .i64 0]]) 0 a (by omega) (by omega) h5 h6;rw[hf] at c1;rw[hE.fn T120]; simp +contextual only[push_cast,ac120,hm,e,c1,c2,simprocAttr]
  | true =>
   have hf':-9223372036854775808<=d+l/\d+l<=9223372036854775807:=by simpa[fits] using hf
   have c2:=c183 hE (lim:=h.length) (h:=h++[.cells true [.int .i64 0,.int .i64 0]]) (d+l) a hf'.1 hf'.2 h5 h6;rw[hf] at c1;cases hg:fits (d+l+a) with
   | false =>
    have e:aroundF d l a=false:=by simp only[aroundF,fits,decide_eq_false_iff_not] at *; omega
    rw[hg] at c2;rw[hE.fn T120]; simp +contextual only[push_cast,ac120,hm,e,c1,c2,simprocAttr]
   | true =>
    have e:aroundF d l a=true:=by simp only[aroundF,fits,decide_eq_true_eq] at *; omega
    rw[hg] at c2;rw[hE.fn T120]; simp +contextual only[push_cast,ac120,hm,e,c1,c2,simprocAttr]
end
section
def SlK (k:Nat)(h:Hp)(a:Option Addr)(n e:Nat)(ev:Nat->List Value):Prop :=
 0<n->∃b o own cs,a=some ⟨b,o,none⟩/\e=k/\h[b]?=some (.cells own cs)/\o+n*k<=cs.length/\∀j,j<n->(cs.drop (o+j*k)).take k=ev j
def SlW (k:Nat)(h:Hp)(a:Option Addr)(n e:Nat)(ev:Nat->List Value):Prop :=
 (a=none/\n=0/\e=0)\/∃b o own cs,a=some ⟨b,o,none⟩/\e=k/\h[b]?=some (.cells own cs)/\o+n*k<=cs.length/\∀j,j<n->(cs.drop (o+j*k)).take k=ev j
theorem SlW.K {k:Nat}{h:Hp}{a:Option Addr}{n e:Nat}{ev:Nat->List Value}(hw:SlW k h a n e ev):SlK k h a n e ev:=by
 intro hn;rcases hw with⟨_,rfl,_⟩ | hw
 ·omega
 ·exact hw
theorem SlW.grow {k n e:Nat}{h l:Hp}{a:Option Addr}{ev:Nat->List Value}(hS:SlW k h a n e ev):SlW k (h++l) a n e ev:=by
 rcases hS with hS | ⟨b,o,own,cs,h1,h2,h3,h4⟩
 ·exact Or.inl hS
 ·exact Or.inr ⟨b,o,own,cs,h1,h2,get_old h3,h4⟩
def OwnW (k:Nat)(h:Hp)(lo:Nat)(a:Option Addr)(n e:Nat)(ev:Nat->List Value):Prop :=
 (a=none/\n=0/\e=0)\/∃b cs,a=some ⟨b,0,none⟩/\e=k/\lo<=b/\h[b]?=some (.cells true cs)/\cs.length=n*k/\∀j,j<n->(cs.drop (j*k)).take k=ev j
theorem OwnW.W {k lo:Nat}{h:Hp}{a:Option Addr}{n e:Nat}{ev:Nat->List Value}(hw:OwnW k h lo a n e ev):SlW k h a n e ev:=by
 rcases hw with hw | ⟨b,cs,h1,h2,h3,h4,h5,h6⟩
 ·exact Or.inl hw
 ·exact Or.inr ⟨b,0,true,cs,h1,h2,h4,by omega,fun j hj=>by rw[Nat.zero_add]; exact h6 j hj⟩
theorem OwnW.grow {k n e lo:Nat}{h l:Hp}{a:Option Addr}{ev:Nat->List Value}(hS:OwnW k h lo a n e ev):OwnW k (h++l) lo a n e ev:=by
 rcases hS with hS | ⟨b,cs,h1,h2,h3,h4,h5⟩
 ·exact Or.inl hS
 ·exact Or.inr ⟨b,cs,h1,h2,h3,get_old h4,h5⟩
theorem get1 {cs:List Value}{i:Nat}{v:Value}(h:(cs.drop i).take 1=[v]):cs[i]?=some v:=by
 have:=congrArg (fun l=>l[0]?) h;simpa[List.getElem?_take,List.getElem?_drop] using this
theorem SlK.nil {k:Nat}{h:Hp}{a:Option Addr}{e:Nat}{ev:Nat->List Value}:SlK k h a 0 e ev:=fun h=>absurd h (Nat.lt_irrefl 0)
theorem SlK.grow {k n e:Nat}{h l:Hp}{a:Option Addr}{ev:Nat->List Value}(hS:SlK k h a n e ev):SlK k (h++l) a n e ev:=by
 intro hn;obtain⟨b,o,own,cs,h1,h2,h3,h4⟩:=hS hn;exact⟨b,o,own,cs,h1,h2,get_old h3,h4⟩
theorem mul_le_in {i n k:Nat}(h:i<n):i*k+k<=n*k:=by
 have:(i+1)*k<=n*k:=Nat.mul_le_mul_right k h;rw[Nat.add_mul,Nat.one_mul] at this;exact this
def findI (q:Nat->Bool):Nat->Nat->Int
 | _,0=>-1
 | i,m+1=>if q i=true then i else findI q (i+1) m
theorem findI_in (q:Nat->Bool):∀(m i:Nat),-1<=findI q i m/\findI q i m<(i:Int)+m/\(0<=findI q i m->(i:Int)<=findI q i m/\q (findI q i m).toNat=true)
 | 0,i=>by simp only[findI]; omega
 | m+1,i=>by
  simp only[findI];split
  ·rename_i hq;refine⟨by omega,by omega,fun _=>⟨by omega,?_⟩⟩;simpa using hq
  ·obtain⟨h1,h2,h3⟩:=findI_in q m (i+1);refine⟨by omega,by omega,fun h=>?_⟩;obtain⟨h4,h5⟩:=h3 h;exact⟨by omega,h5⟩
theorem findI_none (q:Nat->Bool):∀(m i:Nat),findI q i m<0->∀j,i<=j->j<i+m->q j=false
 | 0,i,_,j,h1,h2=>by omega
 | m+1,i,h,j,h1,h2=>by
  simp only[findI] at h;split at h
  ·omega
  ·rename_i hq
   by_cases e:j=i
   ·subst e; simpa using hq
   ·exact findI_none q m (i+1) h j (by omega) (by omega)
theorem findI_step {q:Nat->Bool}{i n:Nat}(h:i<n):findI q i (n-i)=if q i=true then(i:Int) else findI q (i+1) (n-(i+1)):=by
 obtain⟨m,e⟩:∃m,n-i=m+1:=⟨n-i-1,by omega⟩;rw[e,show n-(i+1)=m by omega];rfl
variable {E:Env}(hE:EnvT E){lim:Nat}{h:Hp}
include hE
theorem c139 {a:Option Addr}{n e:Nat}{L:Nat->List Value}{p:Nat}{fa fb:Array Value}{q:Nat->Bool}(hS:SlK 3 h a n e (L))(hn:n<1000000000000)
  (hp:∀j,j<n->evI E h.length (.func (p:FuncId)) (fa.toList++[.agg (L j).toArray]++fb.toList) h=some (.bool (q j),h)) :
  evI E lim (.func 139) [.slice a n e,.func (.func p) fa fb] h=some (.int .i64 (findI q 0 n),h):=by
 refine PostV.eq ?_;rw[hE.fn T139]; simp +contextual only[push_cast,ac139,simprocAttr];refine loop_post hE.mono (fun k f H=>∃i:Nat,i<=n/\n-i=k/\findI q 0 n=findI q i (n-i)/\f.rd 0=.slice a n e/\f.rd 1=.func (.func p) fa fb/\f.rd 7=.int .i64 n/\f.rd 8=.int .i64 i/\H=h) ?_ n _ _ ?_
 ·rintro k f H ⟨i,hi,hk,hq,f0,f1,f7,f8,rfl⟩
  by_cases hin:i<n
  ·obtain⟨b,o,own,cs,rfl,rfl,h1,h2,h3⟩:=hS (by omega);have h4:=h3 i hin;have h5:=mul_le_in (k:=3) hin;have h6:o+i*3+3<=cs.length:=by omega
   have e1:((i:Int)<n)=True:=by simp[hin]
   have e2:(0<=(i:Int))=True:=by simp
   have e3:=wn1 (i:=i);have hp':=hp i hin;rw[findI_step hin] at hq;cases hqi:q i with
   | true =>
    rw[if_pos hqi] at hq;rw[hqi] at hp';simp +contextual only[push_cast,lp139_0,f0,f1,f7,f8,e1,e2,h1,h4,h6,hp',hq,simprocAttr]
   | false =>
    rw[if_neg (by simp[hqi])] at hq;rw[hqi] at hp';simp +contextual only[push_cast,lp139_0,f0,f1,f7,f8,e1,e2,e3,h1,h4,h6,hp',simprocAttr];exact⟨n-(i+1),by omega,i+1,hin,rfl,hq,rfl⟩
  ·have:i=n:=by omega
   subst this;rw[Nat.sub_self] at hq;simp +contextual only[push_cast,lp139_0,f7,f8,Int.lt_irrefl,hq,findI,simprocAttr]
 ·exact⟨0,by omega,rfl,rfl,rfl,rfl,rfl,rfl,rfl⟩
theorem c78 {a:Option Addr}{n e:Nat}{L:Nat->List Value}{p:Nat}{fa fb:Array Value}{q:Nat->Bool}(hS:SlK 3 h a n e (L))(hn:n<1000000000000)
  (hp:∀j,j<n->evI E h.length (.func (p:FuncId)) (fa.toList++[.agg (L j).toArray]++fb.toList) h=some (.bool (q j),h)) :
  evI E lim (.func 78) [.slice a n e,.func (.func p) fa fb] h=some (.bool (decide (findI q 0 n>=0)),h):=by
 rw[hE.fn T78]; simp +contextual only[push_cast,ac78,c139 hE hS hn hp,simprocAttr]
theorem c160 {a:Option Addr}{n e:Nat}{V:Nat->Value}{p:Nat}{fa fb:Array Value}{q:Nat->Bool}(hS:SlK 1 h a n e (fun j=>[V j]))(hn:n<1000000000000)
  (hp:∀j,j<n->evI E h.length (.func (p:FuncId)) (fa.toList++[V j]++fb.toList) h=some (.bool (q j),h)) :
  evI E lim (.func 160) [.slice a n e,.func (.func p) fa fb] h=some (.int .i64 (findI q 0 n),h):=by
 refine PostV.eq ?_;rw[hE.fn T160]; simp +contextual only[push_cast,ac160,simprocAttr];refine loop_post hE.mono (fun k f H=>∃i:Nat,i<=n/\n-i=k/\findI q 0 n=findI q i (n-i)/\f.rd 0=.slice a n e/\f.rd 1=.func (.func p) fa fb/\f.rd 7=.int .i64 n/\f.rd 8=.int .i64 i/\H=h) ?_ n _ _ ?_
 ·rintro k f H ⟨i,hi,hk,hq,f0,f1,f7,f8,rfl⟩
  by_cases hin:i<n
  ·obtain⟨b,o,own,cs,rfl,rfl,h1,h2,h3⟩:=hS (by omega);have h4:=h3 i hin;have h5:=mul_le_in (k:=1) hin;have h6:o+i*1+1<=cs.length:=by omega
   have e1:((i:Int)<n)=True:=by simp[hin]
   have e2:(0<=(i:Int))=True:=by simp
   have e3:=wn1 (i:=i);have hp':=hp i hin;rw[findI_step hin] at hq;cases hqi:q i with
   | true =>
    rw[if_pos hqi] at hq;rw[hqi] at hp';simp +contextual only[push_cast,lp160_0,f0,f1,f7,f8,e1,e2,h1,get1 h4,hp',hq,simprocAttr]
   | false =>
    rw[if_neg (by simp[hqi])] at hq;rw[hqi] at hp';simp +contextual only[push_cast,lp160_0,f0,f1,f7,f8,e1,e2,e3,h1,get1 h4,hp',simprocAttr];exact⟨n-(i+1),by omega,i+1,hin,rfl,hq,rfl⟩
  ·have:i=n:=by omega
   subst this;rw[Nat.sub_self] at hq;simp +contextual only[push_cast,lp160_0,f7,f8,Int.lt_irrefl,hq,findI,simprocAttr]
 ·exact⟨0,by omega,rfl,rfl,rfl,rfl,rfl,rfl,rfl⟩
theorem c184 {a:Option Addr}{n e:Nat}{L:Nat->List Value}{p:Nat}{fa fb:Array Value}{q:Nat->Bool}(hS:SlK 2 h a n e (L))(hn:n<1000000000000)
  (hp:∀j,j<n->evI E h.length (.func (p:FuncId)) (fa.toList++[.agg (L j).toArray]++fb.toList) h=some (.bool (q j),h)) :
  evI E lim (.func 184) [.slice a n e,.func (.func p) fa fb] h=some (.int .i64 (findI q 0 n),h):=by
 refine PostV.eq ?_;rw[hE.fn T184]; simp +contextual only[push_cast,ac184,simprocAttr];refine loop_post hE.mono (fun k f H=>∃i:Nat,i<=n/\n-i=k/\findI q 0 n=findI q i (n-i)/\f.rd 0=.slice a n e/\f.rd 1=.func (.func p) fa fb/\f.rd 7=.int .i64 n/\f.rd 8=.int .i64 i/\H=h) ?_ n _ _ ?_
 ·rintro k f H ⟨i,hi,hk,hq,f0,f1,f7,f8,rfl⟩
  by_cases hin:i<n
  ·obtain⟨b,o,own,cs,rfl,rfl,h1,h2,h3⟩:=hS (by omega);have h4:=h3 i hin;have h5:=mul_le_in (k:=2) hin;have h6:o+i*2+2<=cs.length:=by omega
   have e1:((i:Int)<n)=True:=by simp[hin]
   have e2:(0<=(i:Int))=True:=by simp
   have e3:=wn1 (i:=i);have hp':=hp i hin;rw[findI_step hin] at hq;cases hqi:q i with
   | true =>
    rw[if_pos hqi] at hq;rw[hqi] at hp';simp +contextual only[push_cast,lp184_0,f0,f1,f7,f8,e1,e2,h1,h4,h6,hp',hq,simprocAttr]
   | false =>
    rw[if_neg (by simp[hqi])] at hq;rw[hqi] at hp';simp +contextual only[push_cast,lp184_0,f0,f1,f7,f8,e1,e2,e3,h1,h4,h6,hp',simprocAttr];exact⟨n-(i+1),by omega,i+1,hin,rfl,hq,rfl⟩
  ·have:i=n:=by omega
   subst this;rw[Nat.sub_self] at hq;simp +contextual only[push_cast,lp184_0,f7,f8,Int.lt_irrefl,hq,findI,simprocAttr]
 ·exact⟨0,by omega,rfl,rfl,rfl,rfl,rfl,rfl,rfl⟩
theorem c208 {a:Option Addr}{n e:Nat}{L:Nat->List Value}{p:Nat}{fa fb:Array Value}{q:Nat->Bool}(hS:SlK 3 h a n e (L))(hn:n<1000000000000)
  (hp:∀j,j<n->evI E h.length (.func (p:FuncId)) (fa.toList++[.agg (L j).toArray]++fb.toList) h=some (.bool (q j),h)) :
  evI E lim (.func 208) [.slice a n e,.func (.func p) fa fb] h=some (.int .i64 (findI q 0 n),h):=by
 refine PostV.eq ?_;rw[hE.fn T208]; simp +contextual only[push_cast,ac208,simprocAttr];refine loop_post hE.mono (fun k f H=>∃i:Nat,i<=n/\n-i=k/\findI q 0 n=findI q i (n-i)/\f.rd 0=.slice a n e/\f.rd 1=.func (.func p) fa fb/\f.rd 7=.int .i64 n/\f.rd 8=.int .i64 i/\H=h) ?_ n _ _ ?_
 ·rintro k f H ⟨i,hi,hk,hq,f0,f1,f7,f8,rfl⟩
  by_cases hin:i<n
  ·obtain⟨b,o,own,cs,rfl,rfl,h1,h2,h3⟩:=hS (by omega);have h4:=h3 i hin;have h5:=mul_le_in (k:=3) hin;have h6:o+i*3+3<=cs.length:=by omega
   have e1:((i:Int)<n)=True:=by simp[hin]
   have e2:(0<=(i:Int))=True:=by simp
   have e3:=wn1 (i:=i);have hp':=hp i hin;rw[findI_step hin] at hq;cases hqi:q i with
   | true =>
    rw[if_pos hqi] at hq;rw[hqi] at hp';simp +contextual only[push_cast,lp208_0,f0,f1,f7,f8,e1,e2,h1,h4,h6,hp',hq,simprocAttr]
   | false =>
    rw[if_neg (by simp[hqi])] at hq;rw[hqi] at hp';simp +contextual only[push_cast,lp208_0,f0,f1,f7,f8,e1,e2,e3,h1,h4,h6,hp',simprocAttr];exact⟨n-(i+1),by omega,i+1,hin,rfl,hq,rfl⟩
  ·have:i=n:=by omega
   subst this;rw[Nat.sub_self] at hq;simp +contextual only[push_cast,lp208_0,f7,f8,Int.lt_irrefl,hq,findI,simprocAttr]
 ·exact⟨0,by omega,rfl,rfl,rfl,rfl,rfl,rfl,rfl⟩
theorem c244 {a:Option Addr}{n e:Nat}{V:Nat->Value}{p:Nat}{fa fb:Array Value}{q:Nat->Bool}(hS:SlK 1 h a n e (fun j=>[V j]))(hn:n<1000000000000)
  (hp:∀j,j<n->evI E h.length (.func (p:FuncId)) (fa.toList++[V j]++fb.toList) h=some (.bool (q j),h)) :
  evI E lim (.func 244) [.slice a n e,.func (.func p) fa fb] h=some (.int .i64 (findI q 0 n),h):=by
 refine PostV.eq ?_;rw[hE.fn T244]; simp +contextual only[push_cast,ac244,simprocAttr];refine loop_post hE.mono (fun k f H=>∃i:Nat,i<=n/\n-i=k/\findI q 0 n=findI q i (n-i)/\f.rd 0=.slice a n e/\f.rd 1=.func (.func p) fa fb/\f.rd 7=.int .i64 n/\f.rd 8=.int .i64 i/\H=h) ?_ n _ _ ?_
 ·rintro k f H ⟨i,hi,hk,hq,f0,f1,f7,f8,rfl⟩
  by_cases hin:i<n
  ·obtain⟨b,o,own,cs,rfl,rfl,h1,h2,h3⟩:=hS (by omega);have h4:=h3 i hin;have h5:=mul_le_in (k:=1) hin;have h6:o+i*1+1<=cs.length:=by omega
   have e1:((i:Int)<n)=True:=by simp[hin]
   have e2:(0<=(i:Int))=True:=by simp
   have e3:=wn1 (i:=i);have hp':=hp i hin;rw[findI_step hin] at hq;cases hqi:q i with
   | true =>
    rw[if_pos hqi] at hq;rw[hqi] at hp';simp +contextual only[push_cast,lp244_0,f0,f1,f7,f8,e1,e2,h1,get1 h4,hp',hq,simprocAttr]
   | false =>
    rw[if_neg (by simp[hqi])] at hq;rw[hqi] at hp';simp +contextual only[push_cast,lp244_0,f0,f1,f7,f8,e1,e2,e3,h1,get1 h4,hp',simprocAttr];exact⟨n-(i+1),by omega,i+1,hin,rfl,hq,rfl⟩
  ·have:i=n:=by omega
   subst this;rw[Nat.sub_self] at hq;simp +contextual only[push_cast,lp244_0,f7,f8,Int.lt_irrefl,hq,findI,simprocAttr]
 ·exact⟨0,by omega,rfl,rfl,rfl,rfl,rfl,rfl,rfl⟩
theorem c255 {a:Option Addr}{n e:Nat}{V:Nat->Value}{p:Nat}{fa fb:Array Value}{q:Nat->Bool}(hS:SlK 1 h a n e (fun j=>[V j]))(hn:n<1000000000000)
  (hp:∀j,j<n->evI E h.length (.func (p:FuncId)) (fa.toList++[V j]++fb.toList) h=some (.bool (q j),h)) :
  evI E lim (.func 255) [.slice a n e,.func (.func p) fa fb] h=some (.int .i64 (findI q 0 n),h):=by
 refine PostV.eq ?_;rw[hE.fn T255]; simp +contextual only[push_cast,ac255,simprocAttr];refine loop_post hE.mono (fun k f H=>∃i:Nat,i<=n/\n-i=k/\findI q 0 n=findI q i (n-i)/\f.rd 0=.slice a n e/\f.rd 1=.func (.func p) fa fb/\f.rd 7=.int .i64 n/\f.rd 8=.int .i64 i/\H=h) ?_ n _ _ ?_
 ·rintro k f H ⟨i,hi,hk,hq,f0,f1,f7,f8,rfl⟩
  by_cases hin:i<n
  ·obtain⟨b,o,own,cs,rfl,rfl,h1,h2,h3⟩:=hS (by omega);have h4:=h3 i hin;have h5:=mul_le_in (k:=1) hin;have h6:o+i*1+1<=cs.length:=by omega
   have e1:((i:Int)<n)=True:=by simp[hin]
   have e2:(0<=(i:Int))=True:=by simp
   have e3:=wn1 (i:=i);have hp':=hp i hin;rw[findI_step hin] at hq;cases hqi:q i with
   | true =>
    rw[if_pos hqi] at hq;rw[hqi] at hp';simp +contextual only[push_cast,lp255_0,f0,f1,f7,f8,e1,e2,h1,get1 h4,hp',hq,simprocAttr]
   | false =>
    rw[if_neg (by simp[hqi])] at hq;rw[hqi] at hp';simp +contextual only[push_cast,lp255_0,f0,f1,f7,f8,e1,e2,e3,h1,get1 h4,hp',simprocAttr];exact⟨n-(i+1),by omega,i+1,hin,rfl,hq,rfl⟩
  ·have:i=n:=by omega
   subst this;rw[Nat.sub_self] at hq;simp +contextual only[push_cast,lp255_0,f7,f8,Int.lt_irrefl,hq,findI,simprocAttr]
 ·exact⟨0,by omega,rfl,rfl,rfl,rfl,rfl,rfl,rfl⟩
theorem c187 {a:Option Addr}{n e:Nat}{V:Nat->Value}{p:Nat}{fa fb:Array Value}{q:Nat->Bool}(hS:SlK 1 h a n e (fun j=>[V j]))(hn:n<1000000000000)
  (hp:∀j,j<n->evI E h.length (.func (p:FuncId)) (fa.toList++[V j]++fb.toList) h=some (.bool (q j),h)) :
  evI E lim (.func 187) [.slice a n e,.func (.func p) fa fb] h=some (.bool (decide (findI q 0 n>=0)),h):=by
 rw[hE.fn T187]; simp +contextual only[push_cast,ac187,c255 hE hS hn hp,simprocAttr]
end
section
variable {E:Env}(hE:EnvT E){lim:Nat}{h:Hp}
include hE
theorem c186 (c low:Int){b:Nat}{own:Bool}(hb:h[b]?=some (.cells own [.int .u8 low])):evI E lim (.func 186) [.int .u8 c,.pointer (some ⟨b,0,none⟩)] h=some (.bool (decide (c<low)||decide (c>126)),h):=by
 rw[hE.fn T186]; simp +contextual only[push_cast,ac186,hb,simprocAttr]
omit hE in
theorem bytes_sl (s:ByteArray) (h:Hp):SlK 1 (h++[.cells true (s.data.toList.map fun b=>.int .u8 b.toNat)]) (some ⟨h.length,0,none⟩) s.size 1 (fun j=>[.int .u8 (s.data.toList.getD j 0).toNat]):=by
 intro hn;have hl:(s.data.toList.map fun b=>Value.int .u8 b.toNat).length=s.size:=by rw[List.length_map,Array.length_toList]; rfl
 refine⟨_,_,_,_,rfl,rfl,get_app0,by rw[hl]; omega,fun j hj=>?_⟩;have hj':j<s.data.toList.length:=by rw[Array.length_toList]; exact hj
 rw[List.drop_eq_getElem_cons (by rw[hl]; omega)];have hj2:j<s.data.size:=hj;simp only[List.take_succ_cons,List.take_zero,List.getElem_map,Array.getElem_toList,List.getD_eq_getElem?_getD,Array.getElem?_toList,Array.getElem?_eq_getElem hj2,Option.getD_some,Nat.zero_add,Nat.mul_one]
theorem c125 (s:ByteArray)(m low:Int)(hs:s.size<1000000000):PostV (evI E lim (.func 125) [.string s,.int .i64 m,.int .u8 low] h) fun v h'=>h'=h/\∃r,v=.bool r/\(r=true->(s.size:Int)<=m):=by
 by_cases hm:(s.size:Int)<=m
 ·have key:=fun H hS hp=>c187 hE (lim:=h.length) (h:=H) (a:=some ⟨h.length+1,0,none⟩) (n:=s.size) (e:=1) (V:=fun j=>.int .u8 (s.data.toList.getD j 0).toNat) (p:=186) (fa:=#[]) (fb:=#[.pointer (some ⟨h.length,0,none⟩)])
   (q:=fun j=>decide (((s.data.toList.getD j 0).toNat:Int)<low)||decide (((s.data.toList.getD j 0).toNat:Int)>126)) hS (by omega) hp
  rw[hE.fn T125]; simp +contextual only[push_cast,ac125,hm,simprocAttr];rw[key]
  ·simp +contextual only[push_cast,simprocAttr];exact⟨_,rfl⟩
  ·have:=bytes_sl s (h++[.cells true [.int .u8 low]]);simp only[app_app,List.cons_append,List.nil_append,len_app,List.length_cons,List.length_nil,Nat.zero_add] at this;exact this
  ·intro j hj;exact c186 hE _ low (b:=h.length) (own:=true) (by rw[get_app0]; rfl)
 ·have:decide ((s.size:Int)<=m)=false:=by simpa using hm
  rw[hE.fn T125]; simp +contextual only[push_cast,ac125,this,simprocAttr];exact⟨_,rfl,fun hf=>by cases hf⟩
structure ZD where
 ta:Option Addr
 tn:Nat
 te:Nat
 off:Nat->Int
 dst:Nat->Bool
 ab:Nat->ByteArray
 ma:Option Addr
 mn:Nat
 me:Nat
 tm:Nat->Int
 xa:Option Addr
 xn:Nat
 xe:Nat
 ix:Nat->Int
 ft:ByteArray
def ZD.cs (z:ZD):List Value:=[.slice z.ta z.tn z.te,.slice z.ma z.mn z.me,.slice z.xa z.xn z.xe,.string z.ft]
structure ZD.In (z:ZD)(h:Hp):Prop where
 tw:SlW 3 h z.ta z.tn z.te fun j=>[.int .i64 (z.off j),.bool (z.dst j),.string (z.ab j)]
 mw:SlW 1 h z.ma z.mn z.me fun j=>[.int .i64 (z.tm j)]
 xw:SlW 1 h z.xa z.xn z.xe fun j=>[.int .i64 (z.ix j)]
 small:z.tn<100000000/\z.mn<100000000/\z.xn<100000000/\z.ft.size<1000000000/\∀j,j<z.tn->(z.ab j).size<1000000000
omit hE in
theorem ZD.In.grow {z:ZD} {h l:Hp} (H:z.In h):z.In (h++l):=⟨H.tw.grow,H.mw.grow,H.xw.grow,H.small⟩
omit hE in
theorem ZD.In.t {z:ZD} (H:z.In h):SlK 3 h z.ta z.tn z.te fun j=>[.int .i64 (z.off j),.bool (z.dst j),.string (z.ab j)]:=H.tw.K
omit hE in
theorem ZD.In.m {z:ZD} (H:z.In h):SlK 1 h z.ma z.mn z.me fun j=>[.int .i64 (z.tm j)]:=H.mw.K
omit hE in
theorem ZD.In.x {z:ZD} (H:z.In h):SlK 1 h z.xa z.xn z.xe fun j=>[.int .i64 (z.ix j)]:=H.xw.K
structure ZD.Right (z:ZD):Prop where
 tn:1<=z.tn
 tu:z.tn<=255
 mn:z.mn<=4000
 xn:z.xn=z.mn
 ft:z.ft.size<=100
 off:∀j,j<z.tn->-89999<=z.off j/\z.off j<=93599
 ix:∀j,j<z.xn->0<=z.ix j/\z.ix j<z.tn
theorem c71 {z:ZD}(H:z.In h):PostV (evI E lim (.func 71) [.agg #[.slice z.ta z.tn z.te,.slice z.ma z.mn z.me,.slice z.xa z.xn z.xe,.string z.ft]] h) fun v h'=>h'=h/\∃r,v=.bool r/\(r=true->z.Right):=by
 obtain⟨v,h',e,rfl,r,rfl,hr⟩:=(c125 hE z.ft 100 32 (by have:=H.small; omega) (lim:=h.length) (h:=h++[.cells true z.cs])).out;simp only[ZD.cs] at e
 by_cases hc:(decide ((z.tn:Int)<1)||decide ((z.tn:Int)>255)||decide ((z.mn:Int)>4000)||!((z.mn:Int)==z.xn)||!r)=true
 ·rw[hE.fn T71]; simp +contextual only[push_cast,ac71,e,hc,simprocAttr];exact⟨false,rfl,fun h=>by cases h⟩
 ·have hc':=Bool.eq_false_iff.2 hc;rw[hE.fn T71]; simp +contextual only[push_cast,ac71,e,hc',simprocAttr];simp only[Bool.or_eq_false_iff,Bool.not_eq_false',decide_eq_false_iff_not,beq_iff_eq] at hc';obtain⟨⟨⟨⟨t1,t2⟩,t3⟩,t4⟩,t5⟩:=hc';have hx:z.xn=z.mn:=by omega
  obtain⟨s1,s2,s3,s4,s5⟩:=H.small
  refine loop_post hE.mono (fun k f X=>∃(i:Nat) (many:Int) (l:Hp),i<=z.tn/\z.tn-i=k/\f.rd 1=.pointer (some ⟨h.length,0,none⟩)/\f.rd 3=.int .i64 many/\f.rd 40=.slice z.ta z.tn z.te/\f.rd 41=.int .i64 z.tn/\f.rd 42=.int .i64 i /\
   X=h++(.cells true z.cs::l)/\∀j,j<i->-89999<=z.off j/\z.off j<=93599) ?_ z.tn _ _ ?_
  ·rintro k f X ⟨i,many,l,hi,hk,f1,f3,f40,f41,f42,rfl,ho⟩;simp only[ZD.cs]
   by_cases hin:i<z.tn
   ·obtain⟨b,o,own,cs,h0,h1,h2,h3,h4⟩:=H.t (Nat.lt_of_le_of_lt (Nat.zero_le i) hin);have h5:=h4 i hin;have h6:=mul_le_in (k:=3) hin;have h7:o+i*3+3<=cs.length:=by omega
    have e1:((i:Int)<z.tn)=True:=by simp[hin]
    have e2:(0<=(i:Int))=True:=by simp
    have e3:=wn1 (i:=i);obtain⟨v,h',e,rfl,r2,rfl,hr2⟩:=(c125 hE (z.ab i) 15 33 (s5 i hin) (lim:=h.length) (h:=h++(.cells true z.cs::(l++[.cells true [.int .i64 (z.off i),.bool (z.dst i),.string (z.ab i)]])))).out;simp only[ZD.cs,h0,h1] at e;cases hb:(decide (z.off i < -89999)||decide (z.off i>93599)||(z.ab i).toList==ByteArray.toList ⟨#[]⟩||!r2) with
    | true =>
     simp +contextual only[push_cast,lp71_1,f1,f3,f40,f41,f42,e1,e2,h0,h1,get_old h2,h5,h7,e,hb,get_cons,len_cons,simprocAttr];exact⟨false,rfl,fun h=>by cases h⟩
    | false =>
     simp +contextual only[push_cast,lp71_1,f1,f3,f40,f41,f42,e1,e2,e3,h0,h1,get_old h2,h5,h7,e,hb,get_cons,len_cons,simprocAttr];refine⟨z.tn-(i+1),by omega,i+1,_,_,hin,rfl,rfl,rfl,rfl,fun j hj=>?_⟩
     by_cases hji:j<i
     ·exact ho j hji
     ·have:j=i:=by omega
      subst this;simp only[Bool.or_eq_false_iff,decide_eq_false_iff_not] at hb;omega
   ·have:i=z.tn:=by omega
    subst this;simp +contextual only[push_cast,lp71_1,f1,f3,f40,f41,f42,Int.lt_irrefl,get_cons,len_cons,simprocAttr]
    refine loop_post hE.mono (fun k f X=>∃(i:Nat) (many:Int) (l:Hp),i<=z.xn/\z.xn-i=k/\f.rd 1=.pointer (some ⟨h.length,0,none⟩)/\f.rd 3=.int .i64 many/\f.rd 73=.slice z.xa z.xn z.xe/\f.rd 74=.int .i64 z.xn/\f.rd 75=.int .i64 i /\
     X=h++(.cells true z.cs::l)/\∀j,j<i->0<=z.ix j/\z.ix j<z.tn) ?_ z.xn _ _ ?_
    ·rintro k f X ⟨i,many,l,hi,hk,f1,f3,f73,f74,f75,rfl,hix⟩;simp only[ZD.cs]
     by_cases hin:i<z.xn
     ·obtain⟨b,o,own,cs,h0,h1,h2,h3,h4⟩:=H.x (Nat.lt_of_le_of_lt (Nat.zero_le i) hin);have h5:=get1 (h4 i hin);have e1:((i:Int)<z.xn)=True:=by simp[hin]
      have e1':((i:Int)<z.mn)=True:=by simp[hx▸hin]
      have e2:(0<=(i:Int))=True:=by simp
      have e3:=wn1 (i:=i);obtain⟨mb,mo,mown,mcs,m0,m1,m2,m3,m4⟩:=H.m (by omega);cases hb:(decide (z.ix i<0)||decide (z.ix i>=z.tn)) with
      | true =>
       simp +contextual only[push_cast,lp71_0,f1,f3,f73,f74,f75,e1,e2,h0,h1,get_old h2,h5,hb,get_cons,len_cons,simprocAttr];exact⟨false,rfl,fun h=>by cases h⟩
      | false =>
       have hno:∀j,j<i+1->0<=z.ix j/\z.ix j<z.tn:=by
        intro j hj
        by_cases hji:j<i
        ·exact hix j hji
        ·have:j=i:=by omega
         subst this;simp only[Bool.or_eq_false_iff,decide_eq_false_iff_not] at hb;omega
       by_cases hi0:i=0
       ·have g1:decide ((i:Int)>0)=false:=by simp; omega
        simp +contextual only[push_cast,lp71_0,f1,f3,f73,f74,f75,e1,e2,e3,h0,h1,get_old h2,h5,hb,get_cons,len_cons,g1,simprocAttr];exact⟨z.xn-(i+1),by omega,i+1,_,_,hin,rfl,rfl,rfl,rfl,hno⟩
       ·have g1:decide ((i:Int)>0)=true:=by simp; omega
        have g2:IntKind.i64.wrap ((i:Int)-1)=((i-1:Nat):Int):=by rw[wrap64 (by omega) (by omega)]; omega
        have g3:(((i-1:Nat):Int)<z.mn)=True:=by simp; omega
        have g4:(0<=((i-1:Nat):Int))=True:=by simp
        have g5:=get1 (m4 i (by omega));have g6:=get1 (m4 (i-1) (by omega));cases hd:decide (z.tm i<=z.tm (i-1)) with
        | true =>
         simp +contextual only[push_cast,lp71_0,f1,f3,f73,f74,f75,e1,e1',e2,e3,h0,h1,m0,m1,get_old h2,get_old m2,h5,hb,get_cons,len_cons,g1,g2,g3,g4,g5,g6,hd,simprocAttr];exact⟨false,rfl,fun h=>by cases h⟩
        | false =>
         simp +contextual only[push_cast,lp71_0,f1,f3,f73,f74,f75,e1,e1',e2,e3,h0,h1,m0,m1,get_old h2,get_old m2,h5,hb,get_cons,len_cons,g1,g2,g3,g4,g5,g6,hd,simprocAttr];exact⟨z.xn-(i+1),by omega,i+1,_,_,hin,rfl,rfl,rfl,rfl,hno⟩
     ·have:i=z.xn:=by omega
      subst this;simp +contextual only[push_cast,lp71_0,f1,f3,f73,f74,f75,Int.lt_irrefl,get_cons,len_cons,simprocAttr];exact⟨_,rfl,fun _=>⟨by omega,by omega,by omega,hx,by have:=hr t5; omega,ho,hix⟩⟩
    ·exact⟨0,many,l,by omega,rfl,by simp +contextual only[push_cast,f1,simprocAttr],by simp +contextual only[push_cast,f3,simprocAttr],by simp +contextual only[push_cast,simprocAttr],by simp +contextual only[push_cast,simprocAttr],by simp +contextual only[push_cast,simprocAttr],rfl,fun j hj=>absurd hj (Nat.not_lt_zero j)⟩
  ·exact⟨0,_,[],by omega,rfl,rfl,rfl,rfl,rfl,rfl,rfl,fun j hj=>absurd hj (Nat.not_lt_zero j)⟩
end
section
theorem wrapu {n:Int}(h1:0<=n)(h2:n<18446744073709551616):IntKind.u64.wrap n=n:=by
 simp only[IntKind.wrap,IntKind.bits,IntKind.signed];simp;omega
variable {E:Env}(hE:EnvT E){lim:Nat}{h:Hp}
include hE
theorem c206 {n:Nat}{p:Nat}{fa fb:Array Value}{q:Nat->Bool}(hn:n<1000000000000)
  (hp:∀lim j,j<n->evI E lim (.func (p:FuncId)) (fa.toList++[.int .i64 (j:Nat)]++fb.toList) h=some (.bool (q j),h)) :
  PostV (evI E lim (.func 206) [.int .i64 n,.func (.func p) fa fb] h) fun v h'=>h'=h/\∃r:Nat,v=.int .i64 r/\r<=n:=by
 rw[hE.fn T206]; simp +contextual only[push_cast,ac206,simprocAttr];refine loop_post hE.mono (fun k f X=>∃i j:Nat,i<=j/\j<=n/\j-i=k/\f.rd 1=.func (.func p) fa fb/\f.rd 5=.int .i64 i/\f.rd 6=.int .i64 j/\X=h) ?_ n _ _ ?_
 ·rintro k f X ⟨i,j,hij,hj,hk,f1,f5,f6,rfl⟩
  by_cases hin:i<j
  ·have e1:((i:Int)<j)=True:=by simp[hin]
   have e2:=w64 (x:=(i:Int)+j);have e3:IntKind.u64.wrap ((i:Int)+j)=(i:Int)+j:=wrapu (by omega) (by omega)
   have e4:((i:Int)+j).fdiv (2 ^ min 1 64)=(((i+j)/2:Nat):Int):=by
    rw[Int.fdiv_eq_ediv_of_nonneg _ (by decide)];simp
   have e5:IntKind.u64.wrap (((i+j)/2:Nat):Int)=(((i+j)/2:Nat):Int):=wrapu (by omega) (by omega);have e6:IntKind.i64.wrap (((i+j)/2:Nat):Int)=(((i+j)/2:Nat):Int):=wrap64 (by omega) (by omega);generalize hm:(i+j)/2=m at *;have hmj:m<n:=by omega
   have e7:=wn1 (i:=m);have hp':=fun lim=>hp lim m hmj;have e8:((1:Int)<0)=False:=by simp
   cases hq:q m with
   | true =>
    rw[hq] at hp';simp +contextual only[push_cast,lp206_0,f1,f5,f6,e1,e2,e3,e4,e5,e6,e8,hp',simprocAttr];exact⟨m-i,by omega,i,m,by omega,by omega,rfl,rfl,rfl⟩
   | false =>
    rw[hq] at hp';simp +contextual only[push_cast,lp206_0,f1,f5,f6,e1,e2,e3,e4,e5,e6,e7,e8,hp',simprocAttr];exact⟨j-(m+1),by omega,m+1,j,by omega,by omega,rfl,rfl,rfl⟩
  ·have e1:((i:Int)<j)=False:=by simp; omega
   simp +contextual only[push_cast,lp206_0,f1,f5,f6,e1,simprocAttr];exact⟨i,rfl,by omega⟩
 ·exact⟨0,n,by omega,by omega,rfl,rfl,rfl,rfl,rfl⟩
theorem c207 {z:ZD}(H:z.In h){b c:Nat}{own own2:Bool}{sec:Int}{j:Nat}(hb:h[b]?=some (.cells own z.cs))(hc:h[c]?=some (.cells own2 [.int .i64 sec]))(hj:j<z.mn) :
  evI E lim (.func 207) [.int .i64 (j:Nat),.pointer (some ⟨b,0,none⟩),.pointer (some ⟨c,0,none⟩)] h=some (.bool (decide (z.tm j>sec)),h):=by
 obtain⟨mb,mo,mown,mcs,m0,m1,m2,m3,m4⟩:=H.m (by omega);have g5:=get1 (m4 j hj);have e1:((j:Int)<z.mn)=True:=by simp[hj]
 have e2:(0<=(j:Int))=True:=by simp
 simp only[ZD.cs,m0,m1] at hb;rw[hE.fn T207]; simp +contextual only[push_cast,ac207,hb,hc,e1,e2,m2,g5,simprocAttr]
theorem c209 (o:Int)(d:Bool)(s:ByteArray):evI E lim (.func 209) [.agg #[.int .i64 o,.bool d,.string s]] h=some (.bool (!d),h):=by
 rw[hE.fn T209]; simp +contextual only[push_cast,ac209,simprocAttr]
theorem c142 {z:ZD}(H:z.In h)(sec:Int):PostV (evI E lim (.func 142) [.agg #[.slice z.ta z.tn z.te,.slice z.ma z.mn z.me,.slice z.xa z.xn z.xe,.string z.ft],.int .i64 sec] h) fun v h'=>h'=h/\∃r:Nat,v=.int .i64 r/\(1<=z.tn->r<z.tn):=by
 obtain⟨s1,s2,s3,s4,s5⟩:=H.small;have HG:z.In (h++[.cells true z.cs,.cells true [.int .i64 sec]]):=H.grow;obtain⟨v,h',e,rfl,r,rfl,hr⟩:=(c71 hE HG (lim:=h.length)).out;simp only[ZD.cs] at e;cases r with
 | false =>
  rw[hE.fn T142]; simp +contextual only[push_cast,ac142,e,simprocAttr];exact⟨0,rfl,fun h=>by omega⟩
 | true =>
  obtain⟨r1,-,r2,r3,r4,r5,r6⟩:=hr rfl
  obtain⟨v,h',es,rfl,r,rfl,hr⟩:=(c206 hE (lim:=h.length) (n:=z.mn) (p:=207) (fa:=#[]) (fb:=#[.pointer (some ⟨h.length,0,none⟩),.pointer (some ⟨h.length+1,0,none⟩)]) (h:=h++[.cells true z.cs,.cells true [.int .i64 sec]]) (q:=fun j=>decide (z.tm j>sec)) (by omega)
   (fun lim j hj=>c207 hE HG (by rw[get_app0]; rfl) (by rw[get_app]; rfl) hj)).out
  simp only[ZD.cs] at es
  by_cases h0:r=0
  ·subst h0;have ef:=fun hp=>c208 hE (lim:=h.length) (h:=h++[.cells true z.cs,.cells true [.int .i64 sec]]) (q:=fun j=>!z.dst j) (p:=209) (fa:=#[]) (fb:=#[]) HG.t (by omega) hp;have ef:=ef fun j hj=>c209 hE _ _ _;simp only[ZD.cs] at ef;obtain⟨i1,i2,i3⟩:=findI_in (fun j=>!z.dst j) z.tn 0;rw[hE.fn T142]; simp +contextual only[push_cast,ac142,e,es,ef,Int.ofNat_zero,gt_iff_lt,Int.lt_irrefl,simprocAttr];refine⟨(max 0 (findI (fun j=>!z.dst j) 0 z.tn)).toNat,by rw[Int.toNat_of_nonneg (by omega)],fun _=>by omega⟩
  ·obtain⟨xb,xo,xown,xcs,x0,x1,x2,x3,x4⟩:=H.x (by omega);have g5:=get1 (x4 (r-1) (by omega));have g1:decide ((r:Int)>0)=true:=by simp; omega
   have g2:IntKind.i64.wrap ((r:Int)-1)=((r-1:Nat):Int):=by rw[wrap64 (by omega) (by omega)]; omega
   have g3:(((r-1:Nat):Int)<z.xn)=True:=by simp; omega
   have g4:(0<=((r-1:Nat):Int))=True:=by simp
   obtain⟨q1,q2⟩:=r6 (r-1) (by omega);simp only[x0,x1] at e es;rw[hE.fn T142]; simp +contextual only[push_cast,ac142,e,es,x0,x1,g1,g2,g3,g4,g5,get_old x2,simprocAttr];exact⟨(z.ix (r-1)).toNat,by rw[Int.toNat_of_nonneg q1],fun _=>by omega⟩
end
section
structure DD where
 k:Int
 m:Int
 w:Int
 d:Int
 t:Int
def DD.cs (x:DD):List Value:=[.int .u8 x.k,.int .i64 x.m,.int .i64 x.w,.int .i64 x.d,.int .i64 x.t]
structure DD.Ok (x:DD):Prop where
 t:-604799<=x.t/\x.t<=604799
 d:0<=x.d/\x.d<=365
 k:x.k=1\/x.k=2\/(x.k=3/\1<=x.m/\x.m<=12/\1<=x.w/\x.w<=5/\x.d<=6)
variable {E:Env}(hE:EnvT E){lim:Nat}{h:Hp}
include hE
def letterB (c:Int):Bool:=(decide (c>=65)&&decide (c<=90))||(decide (c>=97)&&decide (c<=122))
theorem c191f (c:Int):evI E lim (.func 191) [.int .u8 c] h=some (.bool (letterB c),h):=by
 rw[hE.fn T191]; simp +contextual only[push_cast,ac191,simprocAttr];rfl
def nameB (c:Int):Bool:=letterB c||(decide (c>=48)&&decide (c<=57))||c==43||c==45
theorem c258 (c:Int):evI E lim (.func 258) [.int .u8 c] h=some (.bool (nameB c),h):=by
 rw[hE.fn T258]; simp +contextual only[push_cast,ac258,c191f hE,c259 hE,simprocAttr];rfl
theorem c302 (c:Int){b:Nat}{own:Bool}(hb:h[b]?=some (.cells own [.func (.func 258) #[] #[]])):evI E lim (.func 302) [.int .u8 c,.pointer (some ⟨b,0,none⟩)] h=some (.bool (!nameB c),h):=by
 rw[hE.fn T302]; simp +contextual only[push_cast,ac302,hb,c258 hE,simprocAttr]
theorem c257 (s:ByteArray)(hs:s.size<1000000000):∃r,evI E lim (.func 257) [.string s,.func (.func 258) #[] #[]] h=some (.bool r,h):=by
 have key:=fun H hS hp=>c187 hE (lim:=h.length) (h:=H) (a:=some ⟨h.length+1,0,none⟩) (n:=s.size) (e:=1) (V:=fun j=>.int .u8 (s.data.toList.getD j 0).toNat) (p:=302) (fa:=#[]) (fb:=#[.pointer (some ⟨h.length,0,none⟩)])
  (q:=fun j=>!nameB (s.data.toList.getD j 0).toNat) hS (by omega) hp
 rw[hE.fn T257]; simp +contextual only[push_cast,ac257,simprocAttr];rw[key]
 ·simp +contextual only[push_cast,simprocAttr];exact⟨_,rfl⟩
 ·have:=bytes_sl s (h++[.cells true [.func (.func 258) #[] #[]]]);simp only[app_app,List.cons_append,List.nil_append,len_app,List.length_cons,List.length_nil,Nat.zero_add] at this;exact this
 ·intro j hj;exact c302 hE _ (b:=h.length) (own:=true) (by rw[get_app0]; rfl)
theorem c192 (s:ByteArray)(hs:s.size<1000000000):∃r,evI E lim (.func 192) [.string s] h=some (.bool r,h):=by
 obtain⟨r,e⟩:=c257 hE s hs (lim:=h.length) (h:=h);rw[hE.fn T192]; simp +contextual only[push_cast,ac192,e,simprocAttr];exact⟨_,rfl⟩
theorem c196 (x:DD):∃r,evI E lim (.func 196) [.agg #[.int .u8 x.k,.int .i64 x.m,.int .i64 x.w,.int .i64 x.d,.int .i64 x.t]] h=some (.bool r,h)/\(r=true->x.Ok):=by
 cases hw:(decide (x.t>=-604799)&&decide (x.t<=604799)) with
 | false =>
  have e:=c195 hE x.t 604799 (by omega) (by omega) (lim:=h.length) (h:=h++[.cells true x.cs]);rw[hw] at e;simp only[DD.cs] at e;refine⟨false,?_,fun h=>by cases h⟩;rw[hE.fn T196]; simp +contextual only[push_cast,ac196,e,simprocAttr]
 | true =>
  have e:=c195 hE x.t 604799 (by omega) (by omega) (lim:=h.length) (h:=h++[.cells true x.cs]);rw[hw] at e;simp only[DD.cs] at e;simp only[Bool.and_eq_true,decide_eq_true_eq] at hw
  by_cases h1:x.k=1
  ·rw[h1] at e ⊢;refine⟨_,by rw[hE.fn T196]; simp +contextual only[push_cast,ac196,e,simprocAttr]; rfl,fun h=>?_⟩;simp only[Bool.and_eq_true,decide_eq_true_eq,beq_iff_eq] at h;exact⟨by omega,by omega,Or.inl h1⟩
  ·by_cases h2:x.k=2
   ·rw[h2] at e ⊢;refine⟨_,by rw[hE.fn T196]; simp +contextual only[push_cast,ac196,e,simprocAttr]; rfl,fun h=>?_⟩;simp only[Bool.and_eq_true,decide_eq_true_eq,beq_iff_eq] at h;exact⟨by omega,by omega,Or.inr (Or.inl h2)⟩
   ·by_cases h3:x.k=3
    ·rw[h3] at e ⊢;refine⟨_,by rw[hE.fn T196]; simp +contextual only[push_cast,ac196,e,simprocAttr]; rfl,fun h=>?_⟩;simp only[Bool.and_eq_true,decide_eq_true_eq,beq_iff_eq] at h;exact⟨by omega,by omega,Or.inr (Or.inr ⟨h3,by omega,by omega,by omega,by omega,by omega⟩)⟩
    ·have g1:(x.k==1)=false:=by simpa using h1
     have g2:(x.k==2)=false:=by simpa using h2
     have g3:(x.k==3)=false:=by simpa using h3
     refine⟨false,?_,fun h=>by cases h⟩;rw[hE.fn T196]; simp +contextual only[push_cast,ac196,e,g1,g2,g3,simprocAttr]
omit hE in
theorem long_in {y m:Int} (h1:1<=y) (h2:y<=9999) (h3:1<=m) (h4:m<=12):28<=longF y m/\longF y m<=31:=by
 unfold longF
 repeat' split
 all_goals omega
omit hE in
theorem right_1 {y m:Int} (h1:1<=y) (h2:y<=9999) (h3:1<=m) (h4:m<=12):rightF y m 1=true:=by
 have:=long_in h1 h2 h3 h4;simp only[rightF,Bool.and_eq_true,decide_eq_true_eq];omega
omit hE in
theorem days_1 {y m:Int} (h1:1<=y) (h2:y<=9999) (h3:1<=m) (h4:m<=12):-719900<=daysF y m 1/\daysF y m 1<=2933300:=by
 rw[daysF_eq h1 h2 h3 h4 (by omega) (by omega)];exact daysP_in h1 h2 h3 h4 (by omega) (by omega)
theorem c262 {x:DD}(hx:x.Ok){y:Int}(h1:2<=y)(h2:y<=9998):PostV (evI E lim (.func 262) [.agg #[.int .u8 x.k,.int .i64 x.m,.int .i64 x.w,.int .i64 x.d,.int .i64 x.t],.int .i64 y] h) fun v h'=>h'=h/\∃n,v=.int .i64 n/\-800000<=n/\n<=3000000:=by
 obtain⟨ht,hd,hk⟩:=hx;have r1:=right_1 (y:=y) (m:=1) (by omega) (by omega) (by omega) (by omega);have⟨d1,d2⟩:=days_1 (y:=y) (m:=1) (by omega) (by omega) (by omega) (by omega);rcases hk with hk | hk | ⟨hk,m1,m2,w1,w2,hd6⟩
 ·rw[hk];have w3:=w64 (x:=daysF y 1 1+x.d);have w4:=w64 (x:=daysF y 1 1+x.d-1);cases hb:(longF y 2==29&&decide (x.d>59)) with
  | true =>
   rw[hE.fn T262]; simp +contextual only[push_cast,ac262,c145 hE,c86 hE,r1,hb,w3,simprocAttr];exact⟨_,rfl,by omega,by omega⟩
  | false =>
   rw[hE.fn T262]; simp +contextual only[push_cast,ac262,c145 hE,c86 hE,r1,hb,w3,w4,simprocAttr];exact⟨_,rfl,by omega,by omega⟩
 ·rw[hk];have w3:=w64 (x:=daysF y 1 1+x.d);rw[hE.fn T262]; simp +contextual only[push_cast,ac262,c145 hE,c86 hE,r1,w3,simprocAttr];exact⟨_,rfl,by omega,by omega⟩
 ·rw[hk];have r2:=right_1 (y:=y) (m:=x.m) (by omega) (by omega) (by omega) (by omega);have⟨d3,d4⟩:=days_1 (y:=y) (m:=x.m) (by omega) (by omega) (by omega) (by omega);have⟨l1,l2⟩:=long_in (y:=y) (m:=x.m) (by omega) (by omega) (by omega) (by omega);have wd:weekdayF y x.m 1=(daysF y x.m 1+3)%7+1:=by simp[weekdayF,r2]
  have wd1:0<=weekdayF y x.m 1/\weekdayF y x.m 1<=7:=by rw[wd]; omega
  obtain⟨wv,hwv⟩:∃wv,weekdayF y x.m 1=wv:=⟨_,rfl⟩;rw[hwv] at wd1;obtain⟨lv,hlv⟩:∃lv,longF y x.m=lv:=⟨_,rfl⟩;rw[hlv] at l1 l2;obtain⟨dv,hdv⟩:∃dv,daysF y x.m 1=dv:=⟨_,rfl⟩;rw[hdv] at d3 d4;clear wd;rw[hE.fn T262]; simp +contextual (disch:=omega) only[push_cast,ac262,c145 hE,c86 hE,c85 hE,r1,hwv,hlv,wrap64,Int.tdiv_eq_ediv_of_nonneg,Int.tmod_eq_emod_of_nonneg,simprocAttr];refine loop_post hE.mono (fun k f X=>∃a:Int,0<=a/\a<=100/\a.toNat=k/\f.rd 8=.pointer (some ⟨h.length+1,0,none⟩)/\f.rd 9=.int .i64 a/\f.rd 10=.int .i64 lv/\X=h++[.cells true [.int .u8 3,.int .i64 x.m,.int .i64 x.w,.int .i64 x.d,.int .i64 x.t],.cells true [.int .i64 y,.int .i64 x.m,.int .i64 1]]) ?_ ((x.d+7-wv%7)%7+7*(x.w-1)).toNat _ _ ?_
  ·rintro k f X ⟨a,a0,a1,hk,f8,f9,f10,rfl⟩
   by_cases ha:a>=lv
   ·have w3:=w64 (x:=a-7);simp +contextual only[push_cast,lp262_0,f8,f9,f10,ha,w3,simprocAttr];exact⟨(a-7).toNat,by omega,a-7,by omega,by omega,rfl,rfl⟩
   ·have w3:=w64 (x:=dv+a);simp +contextual only[push_cast,lp262_0,f8,f9,f10,ha,c145 hE,r2,hdv,w3,simprocAttr];exact⟨_,rfl,by omega,by omega⟩
  ·exact⟨_,by omega,by omega,rfl,rfl,rfl,rfl,rfl⟩
theorem c205 (x:DD)(y:Int):PostV (evI E lim (.func 205) [.agg #[.int .u8 x.k,.int .i64 x.m,.int .i64 x.w,.int .i64 x.d,.int .i64 x.t],.int .i64 y] h) fun v h'=>h'=h/\∃n e,v=.tuple #[.int .i64 n,.int .i64 e]/\-300000000000<=n/\n<=300000000000:=by
 obtain⟨r,e,hr⟩:=c196 hE x (lim:=h.length) (h:=h++[.cells true x.cs]);simp only[DD.cs] at e;cases r with
 | false =>
  rw[hE.fn T205]; simp +contextual only[push_cast,ac205,e,simprocAttr];exact⟨_,_,rfl,by omega,by omega⟩
 | true =>
  cases hy:(decide (y<2)||decide (y>9998)) with
  | true =>
   rw[hE.fn T205]; simp +contextual only[push_cast,ac205,e,hy,simprocAttr];exact⟨_,_,rfl,by omega,by omega⟩
  | false =>
   simp only[Bool.or_eq_false_iff,decide_eq_false_iff_not] at hy;obtain⟨v,h',ed,rfl,n,rfl,n1,n2⟩:=(c262 hE (hr rfl) (y:=y) (by omega) (by omega) (lim:=h.length) (h:=h++[.cells true x.cs])).out;simp only[DD.cs] at ed;have ht:=(hr rfl).t;have g1:decide (y<2)=false:=by simp; omega
   have g2:decide (y>9998)=false:=by simp; omega
   have w1:=w64 (x:=n*86400);have w2:=w64 (x:=n*86400+x.t);rw[hE.fn T205]; simp +contextual only[push_cast,ac205,e,ed,g1,g2,w1,w2,simprocAttr];exact⟨_,_,rfl,by omega,by omega⟩
structure RD where
 std:ByteArray
 dst:ByteArray
 off:Int
 dof:Int
 st:DD
 en:DD
def RD.cs (r:RD):List Value:=[.string r.std,.string r.dst,.int .i64 r.off,.int .i64 r.dof,.int .u8 r.st.k,.int .i64 r.st.m,.int .i64 r.st.w,.int .i64 r.st.d,.int .i64 r.st.t,.int .u8 r.en.k,.int .i64 r.en.m,.int .i64 r.en.w,.int .i64 r.en.d,.int .i64 r.en.t]
structure RD.Right (r:RD):Prop where
 off:-89999<=r.off/\r.off<=89999
 dof:(r.dst.toList==ByteArray.toList ⟨#[]⟩)=false->-89999<=r.dof/\r.dof<=89999/\r.st.Ok/\r.en.Ok
theorem c131 (x:RD)(h1:x.std.size<1000000000)(h2:x.dst.size<1000000000):∃r,evI E lim (.func 131) [.agg x.cs.toArray] h=some (.bool r,h)/\(r=true->x.Right):=by
 obtain⟨r1,e1⟩:=c192 hE x.std h1 (lim:=h.length) (h:=h++[.cells true x.cs]);obtain⟨r2,e2⟩:=c192 hE x.dst h2 (lim:=h.length) (h:=h++[.cells true x.cs]);have e3:=c195 hE x.off 89999 (by omega) (by omega) (lim:=h.length) (h:=h++[.cells true x.cs]);have e4:=c195 hE x.dof 89999 (by omega) (by omega) (lim:=h.length) (h:=h++[.cells true x.cs]);obtain⟨r5,e5,p5⟩:=c196 hE x.st (lim:=h.length) (h:=h++[.cells true x.cs]);obtain⟨r6,e6,p6⟩:=c196 hE x.en (lim:=h.length) (h:=h++[.cells true x.cs]);simp only[RD.cs] at e1 e2 e3 e4 e5 e6 ⊢;cases hb:(!r1||!(decide (x.off>=-89999)&&decide (x.off<=89999))) with
 | true =>
  refine⟨false,?_,fun h=>by cases h⟩;rw[hE.fn T131]; simp +contextual only[push_cast,ac131,e1,e2,e3,e4,e5,e6,hb,simprocAttr]
 | false =>
  cases hd:(x.dst.toList==ByteArray.toList ⟨#[]⟩) with
  | true =>
   refine⟨_,by rw[hE.fn T131]; simp +contextual only[push_cast,ac131,e1,e2,e3,e4,e5,e6,hb,hd,eqV,lksEq,lkEq,simprocAttr]; rfl,fun h=>⟨?_,fun hf=>by rw[hd] at hf; cases hf⟩⟩;simp only[Bool.or_eq_false_iff,Bool.not_eq_false',Bool.and_eq_true,decide_eq_true_eq] at hb;omega
  | false =>
   refine⟨_,by rw[hE.fn T131]; simp +contextual only[push_cast,ac131,e1,e2,e3,e4,e5,e6,hb,hd,simprocAttr]; rfl,fun h=>⟨?_,fun hf=>?_⟩⟩
   ·simp only[Bool.or_eq_false_iff,Bool.not_eq_false',Bool.and_eq_true,decide_eq_true_eq] at hb;omega
   ·simp only[Bool.and_eq_true,decide_eq_true_eq] at h;exact⟨by omega,by omega,p5 (by simp_all),p6 (by simp_all)⟩
theorem c204 {a b c d:Nat}{t la:Int}{me su is:Bool}{n:Int}{own:Bool}(ha:h[a]?=some (.cells own [.int .i64 t]))(hb:h[b]?=some (.cells true [.bool me]))(hc:h[c]?=some (.cells true [.int .i64 la]))(hd:h[d]?=some (.cells true [.bool su]))(n1:b≠c)(n2:b≠d)(n3:c≠d) :
  PostV (evI E lim (.func 204) [.int .i64 n,.bool is,.pointer (some ⟨a,0,none⟩),.pointer (some ⟨b,0,none⟩),.pointer (some ⟨c,0,none⟩),.pointer (some ⟨d,0,none⟩)] h) fun v h'=>v=undef/\∃me' la' su',h'=((h.set c (.cells true [.int .i64 la'])).set d (.cells true [.bool su'])).set b (.cells true [.bool me']):=by
 have lb:=lt_of_get hb;have lc:=lt_of_get hc;have ld:=lt_of_get hd;cases hq:(decide (n<=t)&&(!me||decide (n>la)||(n==la&&!is))) with
 | false =>
  rw[hE.fn T204]; simp +contextual only[push_cast,ac204,ha,hb,hc,hd,hq,simprocAttr];exact⟨rfl,me,la,su,by rw[set_same hc,set_same hd,set_same hb]⟩
 | true =>
  have l1:b<(h.set c (.cells true [.int .i64 n])).length:=by simpa using lb
  have l2:d<(h.set c (.cells true [.int .i64 n])).length:=by simpa using ld
  have l3:b<((h.set c (.cells true [.int .i64 n])).set d (.cells true [.bool is])).length:=by simpa using lb
  have t1:(((h.set c (.cells true [.int .i64 n])).set d (.cells true [.bool is])).set b (.cells true [.bool true])).take h.length=((h.set c (.cells true [.int .i64 n])).set d (.cells true [.bool is])).set b (.cells true [.bool true]):=take_allC (by simp);rw[hE.fn T204]; simp +contextual only[push_cast,ac204,ha,hb,hc,hd,hq,set_get lb,set_get lc,set_get ld,set_ne n1,set_ne n2,set_ne n3,set_ne n1.symm,set_ne n2.symm,set_ne n3.symm,t1,simprocAttr];exact⟨rfl,_,_,_,rfl⟩
end
section
theorem ofF_year {n:Int}(h1:-719162<=n)(h2:n<=2932896):0<=(ofF n).1/\(ofF n).1<=10000:=by
 obtain⟨y0,y1,r0,r1⟩:=cyc ((n+719468)%146097) (by omega) (by omega) _ rfl;unfold ofF;simp only;split<;>omega
variable {E:Env}(hE:EnvT E){lim:Nat}{h:Hp}
include hE
theorem c141 (x:RD)(sec:Int)(h1:x.std.size<1000000000)(h2:x.dst.size<1000000000):PostV (evI E lim (.func 141) [.agg x.cs.toArray,.int .i64 sec] h) fun v h'=>h'=h/\∃o b,v=.tuple #[.int .i64 o,.bool b]/\-89999<=o/\o<=89999:=by
 obtain⟨r,er,hr⟩:=c131 hE x h1 h2 (lim:=h.length) (h:=h++[.cells true x.cs]);simp only[RD.cs] at er ⊢;cases r with
 | false =>
  rw[hE.fn T141]; simp +contextual only[push_cast,ac141,er,simprocAttr];exact⟨_,_,rfl,by omega,by omega⟩
 | true =>
  have ho:=(hr rfl).off;cases hd:(x.dst.toList==ByteArray.toList ⟨#[]⟩) with
  | true =>
   rw[hE.fn T141]; simp +contextual only[push_cast,ac141,er,hd,simprocAttr];exact⟨_,_,rfl,by omega,by omega⟩
  | false =>
   obtain⟨do1,do2,ost,oen⟩:=(hr rfl).dof hd;obtain⟨t,ht⟩:∃t,max (-10000000000) (min 100000000000 sec)=t:=⟨_,rfl⟩;have t1:-10000000000<=t:=by omega
   have t2:t<=100000000000:=by omega
   have w1:=w64 (x:=t+x.off);have ef:=fun h=>c203 hE (t+x.off) 86400 (by omega) (by omega) (by omega) (by omega) (lim:=h.length) (h:=h);have eo:=fun h=>c144 hE ((t+x.off)/86400) (by omega) (by omega) (lim:=h.length) (h:=h);obtain⟨y1,y2⟩:=ofF_year (n:=(t+x.off)/86400) (by omega) (by omega);obtain⟨y,hy⟩:∃y,(ofF ((t+x.off)/86400)).1=y:=⟨_,rfl⟩;rw[hy] at y1 y2;have w2:=w64 (x:=y-2);have w3:=w64 (x:=y+2);rw[hE.fn T141]; simp +contextual only[push_cast,ac141,er,hd,ht,w1,c203 hE (t+x.off) 86400 (by omega) (by omega) (by omega) (by omega),c144 hE ((t+x.off)/86400) (by omega) (by omega),hy,w2,simprocAttr];obtain⟨md,hmd⟩:∃md,(ofF ((t+x.off)/86400)).2.1=md:=⟨_,rfl⟩;obtain⟨dd,hdd⟩:∃dd,(ofF ((t+x.off)/86400)).2.2=dd:=⟨_,rfl⟩;rw[hmd,hdd]
   refine loop_post hE.mono (fun k f X=>∃(yy la:Int) (su me:Bool),yy<=y+2/\y-2<=yy/\(y+2-yy).toNat=k/\f.rd 2=.pointer (some ⟨h.length,0,none⟩)/\f.rd 7=.pointer (some ⟨h.length+2,0,none⟩)/\f.rd 10=.pointer (some ⟨h.length+4,0,none⟩) /\
    f.rd 12=.func (.func 204) #[] #[.pointer (some ⟨h.length+1,0,none⟩),.pointer (some ⟨h.length+5,0,none⟩),.pointer (some ⟨h.length+3,0,none⟩),.pointer (some ⟨h.length+4,0,none⟩)]/\f.rd 13=.int .i64 yy /\
    X=h++[.cells true x.cs,.cells true [.int .i64 t],.cells true [.int .i64 y,.int .i64 md,.int .i64 dd],.cells true [.int .i64 la],.cells true [.bool su],.cells true [.bool me]]) ?_ 4 _ _ ?_
   ·rintro k f X ⟨yy,la,su,me,g1,g2,hk,f2,f7,f10,f12,f13,rfl⟩;simp only[RD.cs]
    by_cases hyy:yy<y+2
    ·obtain⟨v,h',e1,rfl,n1,x1,rfl,a1,a2⟩:=(c205 hE x.st yy (lim:=h.length) (h:=h++[.cells true x.cs,.cells true [.int .i64 t],.cells true [.int .i64 y,.int .i64 md,.int .i64 dd],.cells true [.int .i64 la],.cells true [.bool su],.cells true [.bool me]])).out;obtain⟨v,h',e2,rfl,n2,x2,rfl,b1,b2⟩:=(c205 hE x.en yy (lim:=h.length) (h:=h++[.cells true x.cs,.cells true [.int .i64 t],.cells true [.int .i64 y,.int .i64 md,.int .i64 dd],.cells true [.int .i64 la],.cells true [.bool su],.cells true [.bool me]])).out;simp only[RD.cs] at e1 e2;have w4:=w64 (x:=yy+1);simp +contextual only[push_cast,lp141_0,f2,f7,f10,f12,f13,w3,hyy,e1,e2,simprocAttr];refine(c204 hE (by rw[get_app]; rfl) (by rw[get_app]; rfl) (by rw[get_app]; rfl) (by rw[get_app]; rfl) (by omega) (by omega) (by omega)).mono ?_;rintro v h' ⟨rfl,me',la',su',rfl⟩;simp +contextual only[push_cast,f2,f7,f10,f12,f13,simprocAttr];refine(c204 hE (by rw[get_app]; rfl) (by rw[get_app]; rfl) (by rw[get_app]; rfl) (by rw[get_app]; rfl) (by omega) (by omega) (by omega)).mono ?_;rintro v h' ⟨rfl,me',la',su',rfl⟩;simp +contextual only[push_cast,f2,f7,f10,f12,f13,w4,simprocAttr];exact⟨(y+2-(yy+1)).toNat,by omega,yy+1,_,_,_,by omega,by omega,rfl,rfl,rfl⟩
    ·cases su with
     | true =>
      simp +contextual only[push_cast,lp141_0,f2,f7,f10,f12,f13,w3,hyy,simprocAttr];exact⟨_,_,rfl,by omega,by omega⟩
     | false =>
      simp +contextual only[push_cast,lp141_0,f2,f7,f10,f12,f13,w3,hyy,simprocAttr];exact⟨_,_,rfl,by omega,by omega⟩
   ·exact⟨y-2,_,_,_,by omega,by omega,by omega,rfl,rfl,rfl,rfl,rfl,rfl⟩
end
section
def AtoiOk (E:Env):Prop:=∀lim s h,s.size<1000000->PostV (evI E lim (.func 260) [.string s] h) fun v h'=>∃n e l,v=.tuple #[.int .i64 n,e]/\h'=h++l
theorem ex_size (s:ByteArray)(a b:Nat):(s.extract a b).size<=s.size:=by rw[ByteArray.size_extract]; omega
theorem byte_get {s:ByteArray}{i:Nat}(hi:i<s.size):∃c,s[i]?=some c:=⟨s[i],by simp[hi]⟩
variable {E:Env}(hE:EnvT E){lim:Nat}{h:Hp}
include hE
theorem c194 (s t:ByteArray):∃r,evI E lim (.func 194) [.string s,.string t] h=some (.bool r,h)/\(r=true->t.size<=s.size):=by
 cases hb:decide ((s.size:Int)>=t.size) with
 | false =>
  refine⟨false,?_,fun h=>by cases h⟩;rw[hE.fn T194]; simp +contextual only[push_cast,ac194,hb,simprocAttr]
 | true =>
  have hb':(t.size:Int)<=s.size:=by simpa using hb
  have e1:(0<=(t.size:Int))=True:=by simp
  have e2:((t.size:Int)<=s.size)=True:=by simpa using hb'
  refine⟨_,by rw[hE.fn T194]; simp +contextual only[push_cast,ac194,hb,bound,e1,e2,Option.map_none,simprocAttr]; rfl,fun _=>by omega⟩
theorem c128 (s t:ByteArray):∃r,evI E lim (.func 128) [.string s,.string t] h=some (.bool r,h):=by
 obtain⟨r,e,-⟩:=c194 hE s t (lim:=h.length) (h:=h);rw[hE.fn T128]; simp +contextual only[push_cast,ac128,e,simprocAttr];exact⟨_,rfl⟩
theorem c301 (s t:ByteArray):∃s' r,evI E lim (.func 301) [.string s,.string t] h=some (.tuple #[.string s',.bool r],h)/\s'.size<=s.size:=by
 obtain⟨r,e,hr⟩:=c194 hE s t (lim:=h.length) (h:=h);cases r with
 | false =>
  refine⟨s,false,?_,Nat.le_refl _⟩;rw[hE.fn T301]; simp +contextual only[push_cast,ac301,e,simprocAttr]
 | true =>
  have:=hr rfl;have e1:(0<=(t.size:Int))=True:=by simp
  have e2:((t.size:Int)<=s.size)=True:=by simp; omega
  refine⟨s.extract t.size s.size,true,?_,ex_size _ _ _⟩;rw[hE.fn T301]; simp +contextual only[push_cast,ac301,e,bound,e1,e2,Option.map_none,simprocAttr]
theorem c256 (s t:ByteArray):∃s' r,evI E lim (.func 256) [.string s,.string t] h=some (.tuple #[.string s',.bool r],h)/\s'.size<=s.size:=by
 obtain⟨s',r,e,hs⟩:=c301 hE s t (lim:=h.length) (h:=h);refine⟨s',r,?_,hs⟩;rw[hE.fn T256]; simp +contextual only[push_cast,ac256,e,simprocAttr]
def rdB (s:ByteArray)(bad:Bool):Blk:=.cells true [.string s,.bool bad]
def RP (h:Hp)(b:Nat)(k:Nat)(P:Value->Prop):Value->Hp->Prop:=fun v h'=>∃s' bad',h'=h.set b (rdB s' bad')/\s'.size<=k/\P v
theorem c188 {b:Nat}{s:ByteArray}{bad:Bool}(c:Int)(hb:h[b]?=some (rdB s bad)):PostV (evI E lim (.func 188) [.pointer (some ⟨b,0,none⟩),.int .u8 c] h) (RP h b s.size fun v=>∃r,v=.bool r):=by
 have hlt:=lt_of_get hb;obtain⟨s',r,e,hs⟩:=c256 hE s (Utf8.encode (IntKind.i32.wrap c)) (lim:=h.length) (h:=h);unfold rdB at hb;rw[hE.fn T188]; simp +contextual only[push_cast,ac188,hb,e,set_get hlt,take_set,simprocAttr];exact⟨s',bad,rfl,hs,r,rfl⟩
theorem c129 {b:Nat}{s:ByteArray}{bad:Bool}(c:Int)(hb:h[b]?=some (rdB s bad)):PostV (evI E lim (.func 129) [.pointer (some ⟨b,0,none⟩),.int .u8 c] h) (RP h b s.size fun v=>True):=by
 have hlt:=lt_of_get hb;rw[hE.fn T129]; simp +contextual only[push_cast,ac129,simprocAttr];refine(c188 hE c hb).mono ?_;rintro v h' ⟨s',bad',rfl,hk,r,rfl⟩;simp +contextual only[push_cast,rdB,set_get hlt,take_set,simprocAttr];exact⟨s',_,rfl,hk,trivial⟩
theorem c189 {b:Nat}{s:ByteArray}{bad:Bool}{most:Int}{p:Nat}{q:Int->Bool}(hs:s.size<1000000)(hb:h[b]?=some (rdB s bad))(hp:∀lim (c:Int),evI E lim (.func (p:FuncId)) [.int .u8 c] h=some (.bool (q c),h)) :
  PostV (evI E lim (.func 189) [.pointer (some ⟨b,0,none⟩),.int .i64 most,.func (.func p) #[] #[]] h) (RP h b s.size fun v=>∃t:ByteArray,v=.string t/\t.size<=s.size):=by
 have hlt:=lt_of_get hb;unfold rdB at hb;rw[hE.fn T189]; simp +contextual only[push_cast,ac189,simprocAttr];refine loop_post hE.mono (fun k f X=>∃i:Nat,i<=s.size/\s.size-i=k/\f.rd 0=.pointer (some ⟨b,0,none⟩)/\f.rd 1=.int .i64 most/\f.rd 2=.func (.func p) #[] #[]/\f.rd 7=.int .i64 i/\X=h) ?_ s.size _ _ ?_
 ·rintro k f X ⟨i,hi,hk,f0,f1,f2,f7,rfl⟩;have e1:(0<=(i:Int))=True:=by simp
  have e2:((i:Int)<=s.size)=True:=by simp; omega
  cases hc:(decide ((i:Int)<s.size)&&decide ((i:Int)<most)) with
  | false =>
   simp +contextual only[push_cast,lp189_0,f0,f1,f2,f7,hb,hc,bound,e1,e2,Option.map_none,set_get hlt,take_set,simprocAttr];exact⟨_,bad,rfl,ex_size _ _ _,_,rfl,ex_size _ _ _⟩
  | true =>
   have hc':=hc;simp only[Bool.and_eq_true,decide_eq_true_eq] at hc;obtain⟨c,hcc⟩:=byte_get (s:=s) (i:=i) (by omega);have e3:=wn1 (i:=i);have hp':=fun lim=>hp lim c.toNat;cases hq:q c.toNat with
   | false =>
    rw[hq] at hp';simp +contextual only[push_cast,lp189_0,f0,f1,f2,f7,hb,hc',bound,e1,e2,Option.map_none,set_get hlt,take_set,hcc,hp',simprocAttr];exact⟨_,bad,rfl,ex_size _ _ _,_,rfl,ex_size _ _ _⟩
   | true =>
    rw[hq] at hp';simp +contextual only[push_cast,lp189_0,f0,f1,f2,f7,hb,hc',e1,hcc,hp',e3,simprocAttr];exact⟨s.size-(i+1),by omega,i+1,by omega,rfl,rfl⟩
 ·exact⟨0,by omega,rfl,rfl,rfl,rfl,rfl,rfl⟩
theorem c193 (hA:AtoiOk E){b:Nat}{s:ByteArray}{bad:Bool}{least most:Int}(hs:s.size<1000000)(hb:h[b]?=some (rdB s bad)) :
  PostV (evI E lim (.func 193) [.pointer (some ⟨b,0,none⟩),.int .i64 least,.int .i64 most] h) (RP h b s.size fun v=>∃n,v=.int .i64 n):=by
 have hlt:=lt_of_get hb;rw[hE.fn T193]; simp +contextual only[push_cast,ac193,simprocAttr];refine(c189 hE hs hb fun lim c=>c259 hE c).mono ?_;rintro v h' ⟨s',bad',rfl,hk,t,rfl,ht⟩;simp +contextual only[push_cast,rdB,set_get hlt,simprocAttr];refine(hA _ t _ (by omega)).mono ?_;rintro v h' ⟨n,e,l,rfl,rfl⟩;simp +contextual only[push_cast,take_appC,simprocAttr];exact⟨s',_,rfl,hk,n,rfl⟩
theorem c126 {b:Nat}{s:ByteArray}{bad:Bool}(hs:s.size<1000000)(hb:h[b]?=some (rdB s bad)) :
  PostV (evI E lim (.func 126) [.pointer (some ⟨b,0,none⟩)] h) (RP h b s.size fun v=>∃t:ByteArray,v=.string t/\t.size<=s.size):=by
 have hlt:=lt_of_get hb;rw[hE.fn T126]; simp +contextual only[push_cast,ac126,simprocAttr];refine(c188 hE 60 hb).mono ?_;rintro v h' ⟨s',bad',rfl,hk,r,rfl⟩;cases r with
 | true =>
  simp +contextual only[push_cast,rdB,set_get hlt,simprocAttr];refine(c189 hE (s:=s') (q:=fun c=>!(c==62)) (by omega) (set_get hlt) fun lim c=>c190 hE c).mono ?_;rintro v h' ⟨s2,bad2,rfl,hk2,t,rfl,ht⟩;simp +contextual only[push_cast,rdB,simprocAttr];refine(c129 hE 62 (set_get hlt)).mono ?_;rintro v h' ⟨s3,bad3,rfl,hk3,-⟩;obtain⟨r,e⟩:=c192 hE t (by omega) (lim:=h.length) (h:=h.set b (rdB s3 bad3));unfold rdB at e;simp +contextual only[push_cast,rdB,set_get hlt,e,take_set,simprocAttr];exact⟨s3,_,rfl,by omega,t,rfl,by omega⟩
 | false =>
  simp +contextual only[push_cast,rdB,set_get hlt,simprocAttr];refine(c189 hE (s:=s') (q:=letterB) (by omega) (set_get hlt) fun lim c=>c191f hE c).mono ?_;rintro v h' ⟨s2,bad2,rfl,hk2,t,rfl,ht⟩;obtain⟨r,e⟩:=c192 hE t (by omega) (lim:=h.length) (h:=h.set b (rdB s2 bad2));unfold rdB at e;simp +contextual only[push_cast,rdB,set_get hlt,e,take_set,simprocAttr];exact⟨s2,_,rfl,by omega,t,rfl,by omega⟩
theorem c127 (hA:AtoiOk E){b:Nat}{s:ByteArray}{bad:Bool}{most:Int}(hs:s.size<1000000)(hb:h[b]?=some (rdB s bad)) :
  PostV (evI E lim (.func 127) [.pointer (some ⟨b,0,none⟩),.int .i64 most] h) (RP h b s.size fun v=>∃n,v=.int .i64 n):=by
 have hlt:=lt_of_get hb;rw[hE.fn T127]; simp +contextual only[push_cast,ac127,simprocAttr];refine(c188 hE 45 hb).mono ?_;rintro v h' ⟨s',bad',rfl,hk,r,rfl⟩;cases r with
 | true =>
  simp +contextual only[push_cast,simprocAttr];refine(c193 hE hA (s:=s') (by omega) (set_get hlt)).mono ?_;rintro v h' ⟨s2,bad2,rfl,hk2,n,rfl⟩;simp +contextual only[push_cast,rdB,set_get hlt,simprocAttr];refine loop_post hE.mono (fun k f X=>∃(pt n:Int) (s3:ByteArray) (bad3:Bool),0<=pt/\pt<=60/\pt.toNat=k/\f.rd 0=.pointer (some ⟨b,0,none⟩)/\f.rd 5=.int .i64 (-1)/\f.rd 6=.int .i64 n/\f.rd 7=.int .i64 pt/\s3.size<=s.size/\X=h.set b (rdB s3 bad3)) ?_ 60 _ _ ?_
  ·rintro k f X ⟨pt,n,s3,bad3,p0,p1,hk,f0,f5,f6,f7,hk3,rfl⟩
   by_cases hp:0<pt
   ·have hp':pt>0:=hp;simp +contextual only[push_cast,lp127_0,f0,f7,hp',simprocAttr];refine(c188 hE 58 (set_get hlt)).mono ?_;rintro v h' ⟨s4,bad4,rfl,hk4,r,rfl⟩;cases r with
    | false =>
     simp +contextual only[push_cast,f0,f5,f6,take_set,rdB,simprocAttr];exact⟨s4,bad4,rfl,by omega,_,rfl⟩
    | true =>
     simp +contextual only[push_cast,f0,f5,f6,f7,simprocAttr];refine(c193 hE hA (s:=s4) (by omega) (set_get hlt)).mono ?_;rintro v h' ⟨s5,bad5,rfl,hk5,m,rfl⟩;have e1:pt.tdiv 60=pt/60:=Int.tdiv_eq_ediv_of_nonneg p0;have e2:=w64 (x:=pt/60);simp +contextual only[push_cast,rdB,f0,f5,f6,f7,set_get hlt,e1,e2,simprocAttr];exact⟨(pt/60).toNat,by omega,pt/60,_,_,_,by omega,by omega,rfl,rfl,rfl,by omega,rfl⟩
   ·have hp':¬ pt>0:=hp;simp +contextual only[push_cast,lp127_0,f0,f5,f6,f7,hp',take_set,rdB,simprocAttr];exact⟨s3,bad3,rfl,by omega,_,rfl⟩
  ·exact⟨60,_,_,_,by omega,by omega,rfl,rfl,rfl,rfl,rfl,by omega,rfl⟩
 | false =>
  simp +contextual only[push_cast,simprocAttr];refine(c188 hE 43 (set_get hlt)).mono ?_;rintro v h' ⟨s1,bad1,rfl,hk1,r,rfl⟩;simp +contextual only[push_cast,simprocAttr];refine(c193 hE hA (s:=s1) (by omega) (set_get hlt)).mono ?_;rintro v h' ⟨s2,bad2,rfl,hk2,n,rfl⟩;simp +contextual only[push_cast,rdB,set_get hlt,simprocAttr];refine loop_post hE.mono (fun k f X=>∃(pt n:Int) (s3:ByteArray) (bad3:Bool),0<=pt/\pt<=60/\pt.toNat=k/\f.rd 0=.pointer (some ⟨b,0,none⟩)/\f.rd 5=.int .i64 (1)/\f.rd 6=.int .i64 n/\f.rd 7=.int .i64 pt/\s3.size<=s.size/\X=h.set b (rdB s3 bad3)) ?_ 60 _ _ ?_
  ·rintro k f X ⟨pt,n,s3,bad3,p0,p1,hk,f0,f5,f6,f7,hk3,rfl⟩
   by_cases hp:0<pt
   ·have hp':pt>0:=hp;simp +contextual only[push_cast,lp127_0,f0,f7,hp',simprocAttr];refine(c188 hE 58 (set_get hlt)).mono ?_;rintro v h' ⟨s4,bad4,rfl,hk4,r,rfl⟩;cases r with
    | false =>
     simp +contextual only[push_cast,f0,f5,f6,take_set,rdB,simprocAttr];exact⟨s4,bad4,rfl,by omega,_,rfl⟩
    | true =>
     simp +contextual only[push_cast,f0,f5,f6,f7,simprocAttr];refine(c193 hE hA (s:=s4) (by omega) (set_get hlt)).mono ?_;rintro v h' ⟨s5,bad5,rfl,hk5,m,rfl⟩;have e1:pt.tdiv 60=pt/60:=Int.tdiv_eq_ediv_of_nonneg p0;have e2:=w64 (x:=pt/60);simp +contextual only[push_cast,rdB,f0,f5,f6,f7,set_get hlt,e1,e2,simprocAttr];exact⟨(pt/60).toNat,by omega,pt/60,_,_,_,by omega,by omega,rfl,rfl,rfl,by omega,rfl⟩
   ·have hp':¬ pt>0:=hp;simp +contextual only[push_cast,lp127_0,f0,f5,f6,f7,hp',take_set,rdB,simprocAttr];exact⟨s3,bad3,rfl,by omega,_,rfl⟩
  ·exact⟨60,_,_,_,by omega,by omega,rfl,rfl,rfl,rfl,rfl,by omega,rfl⟩
theorem c130 (hA:AtoiOk E){b:Nat}{s:ByteArray}{bad:Bool}(hs:s.size<1000000)(hb:h[b]?=some (rdB s bad)) :
  PostV (evI E lim (.func 130) [.pointer (some ⟨b,0,none⟩)] h) (RP h b s.size fun v=>∃x:DD,v=.agg x.cs.toArray):=by
 have hlt:=lt_of_get hb;have hl1:∀X,b<(h.set b X).length:=by simp[hlt]
 rw[hE.fn T130]; simp +contextual only[push_cast,ac130,simprocAttr];refine(c188 hE 74 (get_old hb)).mono ?_;rintro v h' ⟨s1,bad1,rfl,hk1,r,rfl⟩;cases r with
 | true =>
  simp +contextual only[push_cast,set_old hlt,get_appC,set_appC,simprocAttr];refine(c193 hE hA (s:=s1) (by omega) (get_old (set_get hlt))).mono ?_;rintro v h' ⟨s2,bad2,rfl,hk2,n,rfl⟩;simp +contextual only[push_cast,set_old (hl1 _),get_appC,set_appC,simprocAttr];refine(c188 hE 47 (get_old (set_get hlt))).mono ?_;rintro v h' ⟨s3,bad3,rfl,hk3,r,rfl⟩;cases r with
  | true =>
   simp +contextual only[push_cast,set_old (hl1 _),get_appC,set_appC,simprocAttr];refine(c127 hE hA (s:=s3) (by omega) (get_old (set_get hlt))).mono ?_;rintro v h' ⟨s4,bad4,rfl,hk4,n4,rfl⟩;simp +contextual only[push_cast,set_old (hl1 _),get_appC,set_appC,get_appC0,set_appC0,take_appC,simprocAttr];exact⟨s4,bad4,rfl,by omega,⟨1,0,0,n,n4⟩,rfl⟩
  | false =>
   simp +contextual only[push_cast,set_old (hl1 _),get_appC,set_appC,get_appC0,set_appC0,take_appC,simprocAttr];exact⟨s3,bad3,rfl,by omega,⟨1,0,0,n,7200⟩,rfl⟩
 | false =>
  simp +contextual only[push_cast,set_old hlt,get_appC,set_appC,simprocAttr];refine(c188 hE 77 (get_old (set_get hlt))).mono ?_;rintro v h' ⟨s2,bad2,rfl,hk2,r,rfl⟩;cases r with
  | false =>
   simp +contextual only[push_cast,set_old (hl1 _),get_appC,set_appC,simprocAttr];refine(c193 hE hA (s:=s2) (by omega) (get_old (set_get hlt))).mono ?_;rintro v h' ⟨s2,bad2,rfl,hk2,n,rfl⟩;simp +contextual only[push_cast,set_old (hl1 _),get_appC,set_appC,simprocAttr];refine(c188 hE 47 (get_old (set_get hlt))).mono ?_;rintro v h' ⟨s3,bad3,rfl,hk3,r,rfl⟩;cases r with
   | true =>
    simp +contextual only[push_cast,set_old (hl1 _),get_appC,set_appC,simprocAttr];refine(c127 hE hA (s:=s3) (by omega) (get_old (set_get hlt))).mono ?_;rintro v h' ⟨s4,bad4,rfl,hk4,n4,rfl⟩;simp +contextual only[push_cast,set_old (hl1 _),get_appC,set_appC,get_appC0,set_appC0,take_appC,simprocAttr];exact⟨s4,bad4,rfl,by omega,⟨2,0,0,n,n4⟩,rfl⟩
   | false =>
    simp +contextual only[push_cast,set_old (hl1 _),get_appC,set_appC,get_appC0,set_appC0,take_appC,simprocAttr];exact⟨s3,bad3,rfl,by omega,⟨2,0,0,n,7200⟩,rfl⟩
  | true =>
   simp +contextual only[push_cast,set_old (hl1 _),get_appC,set_appC,simprocAttr];refine(c193 hE hA (s:=s2) (by omega) (get_old (set_get hlt))).mono ?_;rintro v h' ⟨s3,bad3,rfl,hk3,n3,rfl⟩;simp +contextual only[push_cast,set_old (hl1 _),get_appC,set_appC,simprocAttr];refine(c129 hE 46 (get_old (set_get hlt))).mono ?_;rintro v h' ⟨s4,bad4,rfl,hk4,-⟩;simp +contextual only[push_cast,set_old (hl1 _),get_appC,set_appC,simprocAttr];refine(c193 hE hA (s:=s4) (by omega) (get_old (set_get hlt))).mono ?_;rintro v h' ⟨s5,bad5,rfl,hk5,n5,rfl⟩;simp +contextual only[push_cast,set_old (hl1 _),get_appC,set_appC,simprocAttr];refine(c129 hE 46 (get_old (set_get hlt))).mono ?_;rintro v h' ⟨s6,bad6,rfl,hk6,-⟩;simp +contextual only[push_cast,set_old (hl1 _),get_appC,set_appC,simprocAttr];refine(c193 hE hA (s:=s6) (by omega) (get_old (set_get hlt))).mono ?_;rintro v h' ⟨s2,bad2,rfl,hk2,n,rfl⟩;simp +contextual only[push_cast,set_old (hl1 _),get_appC,set_appC,simprocAttr];refine(c188 hE 47 (get_old (set_get hlt))).mono ?_;rintro v h' ⟨s3,bad3,rfl,hk3,r,rfl⟩;cases r with
   | true =>
    simp +contextual only[push_cast,set_old (hl1 _),get_appC,set_appC,simprocAttr];refine(c127 hE hA (s:=s3) (by omega) (get_old (set_get hlt))).mono ?_;rintro v h' ⟨s4,bad4,rfl,hk4,n4,rfl⟩;simp +contextual only[push_cast,set_old (hl1 _),get_appC,set_appC,get_appC0,set_appC0,take_appC,simprocAttr];exact⟨s4,bad4,rfl,by omega,⟨3,n3,n5,n,n4⟩,rfl⟩
   | false =>
    simp +contextual only[push_cast,set_old (hl1 _),get_appC,set_appC,get_appC0,set_appC0,take_appC,simprocAttr];exact⟨s3,bad3,rfl,by omega,⟨3,n3,n5,n,7200⟩,rfl⟩
end
section
variable {E:Env}(hE:EnvT E){lim:Nat}{h:Hp}
include hE
def z14:List Value:=[.string ⟨#[]⟩,.string ⟨#[]⟩,.int .i64 0,.int .i64 0,.int .u8 0,.int .i64 0,.int .i64 0,.int .i64 0,.int .i64 0,.int .u8 0,.int .i64 0,.int .i64 0,.int .i64 0,.int .i64 0]
theorem c75 (hA:AtoiOk E)(s:ByteArray):PostV (evI E lim (.func 75) [.string s] h) fun v h'=>h'=h/\∃(r:RD) (e:Int),v=.tuple #[.agg r.cs.toArray,.int .i64 e]/\r.std.size<1000000/\r.dst.size<1000000/\(e=0->r.Right):=by
 by_cases hs:(s.size:Int)>100
 ·rw[hE.fn T75]; simp +contextual only[push_cast,ac75,hs,simprocAttr];exact⟨⟨⟨#[]⟩,⟨#[]⟩,0,0,⟨0,0,0,0,0⟩,⟨0,0,0,0,0⟩⟩,_,rfl,by decide,by decide,fun h=>by simp at h⟩
 ·rw[hE.fn T75]; simp +contextual only[push_cast,ac75,hs,simprocAttr];refine(c126 hE (s:=s) (by omega) (by rw[get_app]; rfl)).mono ?_;rintro v h' ⟨s1,bad1,rfl,hk1,t1,rfl,ht1⟩;simp +contextual only[push_cast,simprocAttr];refine(c127 hE hA (s:=s1) (by omega) (by rw[get_app]; rfl)).mono ?_;rintro v h' ⟨s2,bad2,rfl,hk2,n1,rfl⟩;cases he:(s2.toList==ByteArray.toList ⟨#[]⟩) with
  | true =>
   have he':(s2.toList != ByteArray.toList ⟨#[]⟩)=false:=by rw[bne,he]; rfl
   simp +contextual only[push_cast,rdB,he,simprocAttr];obtain⟨rr,er,pr⟩:=c131 hE ⟨t1,⟨#[]⟩,IntKind.i64.wrap (0-n1),0,⟨0,0,0,0,0⟩,⟨0,0,0,0,0⟩⟩ (by show t1.size<1000000000; omega) (by show(⟨#[]⟩:ByteArray).size<1000000000; decide) (lim:=h.length) (h:=h++[.cells true z14,rdB s2 bad2,.cells true (RD.cs ⟨t1,⟨#[]⟩,IntKind.i64.wrap (0-n1),0,⟨0,0,0,0,0⟩,⟨0,0,0,0,0⟩⟩)]);simp only[RD.cs,z14,rdB] at er;cases hq:(bad2||!rr) with
   | true =>
    simp +contextual only[push_cast,rdB,er,hq,he,simprocAttr];exact⟨⟨⟨#[]⟩,⟨#[]⟩,0,0,⟨0,0,0,0,0⟩,⟨0,0,0,0,0⟩⟩,_,rfl,by decide,by decide,fun h=>by simp at h⟩
   | false =>
    simp +contextual only[push_cast,rdB,er,hq,he,simprocAttr];refine⟨⟨t1,⟨#[]⟩,IntKind.i64.wrap (0-n1),0,⟨0,0,0,0,0⟩,⟨0,0,0,0,0⟩⟩,0,rfl,(by show t1.size<1000000; omega),(by show(⟨#[]⟩:ByteArray).size<1000000; decide),fun _=>pr ?_⟩;cases rr with
    | true=>rfl
    | false=>simp at hq
  | false =>
   simp +contextual only[push_cast,rdB,he,simprocAttr];refine(c126 hE (s:=s2) (by omega) (by rw[get_app]; rfl)).mono ?_;rintro v h' ⟨s3,bad3,rfl,hk3,t2,rfl,ht2⟩;simp +contextual only[push_cast,rdB,simprocAttr];obtain⟨rp,ep⟩:=c128 hE s3 ⟨#[44]⟩ (lim:=h.length) (h:=h++[.cells true z14,rdB s3 bad3,.cells true [.string t1,.string t2,.int .i64 (IntKind.i64.wrap (0-n1)),.int .i64 (IntKind.i64.wrap (IntKind.i64.wrap (0-n1)+3600)),.int .u8 0,.int .i64 0,.int .i64 0,.int .i64 0,.int .i64 0,.int .u8 0,.int .i64 0,.int .i64 0,.int .i64 0,.int .i64 0]]);simp only[z14,rdB] at ep;cases rp with
   | true =>
    simp +contextual only[push_cast,ep,simprocAttr];refine(c129 hE 44 (s:=s3) (by rw[get_app]; rfl)).mono ?_;rintro v h' ⟨u1,ub1,rfl,uk1,-⟩;simp +contextual only[push_cast,z14,simprocAttr];refine(c130 hE hA (s:=u1) (by omega) (by rw[get_app]; rfl)).mono ?_;rintro v h' ⟨u2,ub2,rfl,uk2,x1,rfl⟩;simp +contextual only[push_cast,z14,DD.cs,simprocAttr];refine(c129 hE 44 (s:=u2) (by rw[get_app]; rfl)).mono ?_;rintro v h' ⟨u3,ub3,rfl,uk3,-⟩;simp +contextual only[push_cast,z14,simprocAttr];refine(c130 hE hA (s:=u3) (by omega) (by rw[get_app]; rfl)).mono ?_;rintro v h' ⟨u4,ub4,rfl,uk4,x2,rfl⟩;simp +contextual only[push_cast,z14,DD.cs,simprocAttr];obtain⟨rr,er,pr⟩:=c131 hE ⟨t1,t2,IntKind.i64.wrap (0-n1),IntKind.i64.wrap (IntKind.i64.wrap (0-n1)+3600),x1,x2⟩ (by show t1.size<1000000000; omega) (by show t2.size<1000000000; omega) (lim:=h.length) (h:=h++[.cells true z14,rdB u4 ub4,.cells true (RD.cs ⟨t1,t2,IntKind.i64.wrap (0-n1),IntKind.i64.wrap (IntKind.i64.wrap (0-n1)+3600),x1,x2⟩)]);simp only[RD.cs,z14,rdB] at er;cases hq:(ub4||!((u4).toList==ByteArray.toList ⟨#[]⟩)||!rr) with
    | true =>
     simp +contextual only[push_cast,rdB,er,hq,simprocAttr];exact⟨⟨⟨#[]⟩,⟨#[]⟩,0,0,⟨0,0,0,0,0⟩,⟨0,0,0,0,0⟩⟩,_,rfl,by decide,by decide,fun h=>by simp at h⟩
    | false =>
     simp +contextual only[push_cast,rdB,er,hq,simprocAttr];refine⟨⟨t1,t2,IntKind.i64.wrap (0-n1),IntKind.i64.wrap (IntKind.i64.wrap (0-n1)+3600),x1,x2⟩,0,rfl,(by show t1.size<1000000; omega),(by show t2.size<1000000; omega),fun _=>pr ?_⟩;cases rr with
     | true=>rfl
     | false=>simp at hq
   | false =>
    simp +contextual only[push_cast,ep,simprocAttr];refine(c127 hE hA (s:=s3) (by omega) (by rw[get_app]; rfl)).mono ?_;rintro v h' ⟨s4,bad4,rfl,hk4,n4,rfl⟩;simp +contextual only[push_cast,simprocAttr];refine(c129 hE 44 (s:=s4) (by rw[get_app]; rfl)).mono ?_;rintro v h' ⟨u1,ub1,rfl,uk1,-⟩;simp +contextual only[push_cast,z14,simprocAttr];refine(c130 hE hA (s:=u1) (by omega) (by rw[get_app]; rfl)).mono ?_;rintro v h' ⟨u2,ub2,rfl,uk2,x1,rfl⟩;simp +contextual only[push_cast,z14,DD.cs,simprocAttr];refine(c129 hE 44 (s:=u2) (by rw[get_app]; rfl)).mono ?_;rintro v h' ⟨u3,ub3,rfl,uk3,-⟩;simp +contextual only[push_cast,z14,simprocAttr];refine(c130 hE hA (s:=u3) (by omega) (by rw[get_app]; rfl)).mono ?_;rintro v h' ⟨u4,ub4,rfl,uk4,x2,rfl⟩;simp +contextual only[push_cast,z14,DD.cs,simprocAttr];obtain⟨rr,er,pr⟩:=c131 hE ⟨t1,t2,IntKind.i64.wrap (0-n1),IntKind.i64.wrap (0-n4),x1,x2⟩ (by show t1.size<1000000000; omega) (by show t2.size<1000000000; omega) (lim:=h.length) (h:=h++[.cells true z14,rdB u4 ub4,.cells true (RD.cs ⟨t1,t2,IntKind.i64.wrap (0-n1),IntKind.i64.wrap (0-n4),x1,x2⟩)]);simp only[RD.cs,z14,rdB] at er;cases hq:(ub4||!((u4).toList==ByteArray.toList ⟨#[]⟩)||!rr) with
    | true =>
     simp +contextual only[push_cast,rdB,er,hq,simprocAttr];exact⟨⟨⟨#[]⟩,⟨#[]⟩,0,0,⟨0,0,0,0,0⟩,⟨0,0,0,0,0⟩⟩,_,rfl,by decide,by decide,fun h=>by simp at h⟩
    | false =>
     simp +contextual only[push_cast,rdB,er,hq,simprocAttr];refine⟨⟨t1,t2,IntKind.i64.wrap (0-n1),IntKind.i64.wrap (0-n4),x1,x2⟩,0,rfl,(by show t1.size<1000000; omega),(by show t2.size<1000000; omega),fun _=>pr ?_⟩;cases rr with
     | true=>rfl
     | false=>simp at hq
end
section
theorem chunk_all {p:Value->Bool}{k:Nat}{cs:List Value}{o:Nat}{ev:Nat->List Value}:∀(n:Nat),(∀j,j<n->(cs.drop (o+j*k)).take k=ev j)->(∀j,j<n->(ev j).all p=true)->((cs.drop o).take (n*k)).all p=true
 | 0,_,_=>by simp
 | n+1,h,hp=>by
  have ih:=chunk_all n (fun j hj=>h j (by omega)) (fun j hj=>hp j (by omega))
  have e:(cs.drop o).take ((n+1)*k)=(cs.drop o).take (n*k)++((cs.drop o).drop (n*k)).take k:=by
   rw[Nat.add_mul,Nat.one_mul,List.take_add]
  rw[e,List.all_append,ih,List.drop_drop,h n (by omega),hp n (by omega)];rfl
theorem chunk_sub {k:Nat}{cs:List Value}{o n j:Nat}(hj:j<n):(((cs.drop o).take (n*k)).drop (j*k)).take k=(cs.drop (o+j*k)).take k:=by
 have h1:=mul_le_in (k:=k) hj;rw[List.drop_take,List.take_take,List.drop_drop,Nat.min_eq_left (by omega)]
theorem own_new {k:Nat}{cs:List Value}{o n lo:Nat}{ev:Nat->List Value}(hl:o+n*k<=cs.length)(h:∀j,j<n->(cs.drop (o+j*k)).take k=ev j){H:Hp}{b:Nat}(hlo:lo<=b)(hb:H[b]?=some (.cells true ((cs.drop o).take (n*k)))):OwnW k H lo (some ⟨b,0,none⟩) n k ev:=by
 refine Or.inr ⟨b,_,rfl,rfl,hlo,hb,by rw[List.length_take,List.length_drop]; omega,fun j hj=>?_⟩;rw[chunk_sub hj];exact h j hj
variable {E:Env}(hE:EnvT E){lim:Nat}{h:Hp}
include hE
theorem c72 {a:Option Addr}{n e:Nat}{L:Nat->List Value}(hS:SlW 3 h a n e L)(hn:n<100000000)(hs:∀j,j<n->(L j).all single=true) :
  PostV (evI E lim (.func 72) [.slice a n e] h) fun v h'=>∃a' e' l,v=.slice a' n e'/\h'=h++l/\OwnW 3 h' h.length a' n e' L:=by
 rcases hS with⟨rfl,rfl,rfl⟩ | ⟨b,o,own,cs,rfl,rfl,h2,h3,h4⟩
 ·rw[hE.fn T72]; simp +contextual only[push_cast,ac72,simprocAttr];exact⟨none,0,[],rfl,(List.append_nil h).symm,Or.inl ⟨rfl,rfl,rfl⟩⟩
 ·have hall:=chunk_all n h4 hs;have hb:n*32<=140737488355328:=by omega
  by_cases h0:n=0
  ·have h3':o+0<=cs.length:=by omega
   rw[hE.fn T72]; simp +contextual only[push_cast,ac72,srcOf,get_old h2,h3',h0,Nat.zero_mul,simprocAttr];refine⟨some ⟨h.length,0,none⟩,3,[.cells true []],rfl,rfl,Or.inr ⟨_,[],rfl,rfl,Nat.le_refl _,get_app0,by simp,fun j hj=>by omega⟩⟩
  ·rw[hE.fn T72]; simp +contextual only[push_cast,ac72,srcOf,get_old h2,h3,h0,hall,hb,Nat.zero_mul,simprocAttr];exact⟨_,_,_,rfl,rfl,own_new h3 h4 (Nat.le_add_right _ _) get_app⟩
theorem c73 {a:Option Addr}{n e:Nat}{L:Nat->List Value}(hS:SlW 1 h a n e L)(hn:n<100000000)(hs:∀j,j<n->(L j).all single=true) :
  PostV (evI E lim (.func 73) [.slice a n e] h) fun v h'=>∃a' e' l,v=.slice a' n e'/\h'=h++l/\OwnW 1 h' h.length a' n e' L:=by
 rcases hS with⟨rfl,rfl,rfl⟩ | ⟨b,o,own,cs,rfl,rfl,h2,h3,h4⟩
 ·rw[hE.fn T73]; simp +contextual only[push_cast,ac73,simprocAttr];exact⟨none,0,[],rfl,(List.append_nil h).symm,Or.inl ⟨rfl,rfl,rfl⟩⟩
 ·have hall:=chunk_all n h4 hs;have hb:n*8<=140737488355328:=by omega
  by_cases h0:n=0
  ·have h3':o+0<=cs.length:=by omega
   rw[hE.fn T73]; simp +contextual only[push_cast,ac73,srcOf,get_old h2,h3',h0,Nat.zero_mul,simprocAttr];refine⟨some ⟨h.length,0,none⟩,1,[.cells true []],rfl,rfl,Or.inr ⟨_,[],rfl,rfl,Nat.le_refl _,get_app0,by simp,fun j hj=>by omega⟩⟩
  ·rw[hE.fn T73]; simp +contextual only[push_cast,ac73,srcOf,get_old h2,h3,h0,hall,hb,Nat.zero_mul,simprocAttr];exact⟨_,_,_,rfl,rfl,own_new h3 h4 (Nat.le_add_right _ _) get_app⟩
theorem c74 {a:Option Addr}{n e:Nat}{L:Nat->List Value}(hS:SlW 1 h a n e L)(hn:n<100000000)(hs:∀j,j<n->(L j).all single=true) :
  PostV (evI E lim (.func 74) [.slice a n e] h) fun v h'=>∃a' e' l,v=.slice a' n e'/\h'=h++l/\OwnW 1 h' h.length a' n e' L:=by
 rcases hS with⟨rfl,rfl,rfl⟩ | ⟨b,o,own,cs,rfl,rfl,h2,h3,h4⟩
 ·rw[hE.fn T74]; simp +contextual only[push_cast,ac74,simprocAttr];exact⟨none,0,[],rfl,(List.append_nil h).symm,Or.inl ⟨rfl,rfl,rfl⟩⟩
 ·have hall:=chunk_all n h4 hs;have hb:n*8<=140737488355328:=by omega
  by_cases h0:n=0
  ·have h3':o+0<=cs.length:=by omega
   rw[hE.fn T74]; simp +contextual only[push_cast,ac74,srcOf,get_old h2,h3',h0,Nat.zero_mul,simprocAttr];refine⟨some ⟨h.length,0,none⟩,1,[.cells true []],rfl,rfl,Or.inr ⟨_,[],rfl,rfl,Nat.le_refl _,get_app0,by simp,fun j hj=>by omega⟩⟩
  ·rw[hE.fn T74]; simp +contextual only[push_cast,ac74,srcOf,get_old h2,h3,h0,hall,hb,Nat.zero_mul,simprocAttr];exact⟨_,_,_,rfl,rfl,own_new h3 h4 (Nat.le_add_right _ _) get_app⟩
theorem c106 {a:Option Addr}{n e:Nat}{L:Nat->List Value}(hS:SlW 3 h a n e L)(hn:n<100000000)(hs:∀j,j<n->(L j).all single=true) :
  PostV (evI E lim (.func 106) [.slice a n e] h) fun v h'=>∃a' e' l,v=.slice a' n e'/\h'=h++l/\OwnW 3 h' h.length a' n e' L:=by
 rcases hS with⟨rfl,rfl,rfl⟩ | ⟨b,o,own,cs,rfl,rfl,h2,h3,h4⟩
 ·rw[hE.fn T106]; simp +contextual only[push_cast,ac106,simprocAttr];exact⟨none,0,[],rfl,(List.append_nil h).symm,Or.inl ⟨rfl,rfl,rfl⟩⟩
 ·have hall:=chunk_all n h4 hs;have hb:n*24<=140737488355328:=by omega
  by_cases h0:n=0
  ·have h3':o+0<=cs.length:=by omega
   rw[hE.fn T106]; simp +contextual only[push_cast,ac106,srcOf,get_old h2,h3',h0,Nat.zero_mul,simprocAttr];refine⟨some ⟨h.length,0,none⟩,3,[.cells true []],rfl,rfl,Or.inr ⟨_,[],rfl,rfl,Nat.le_refl _,get_app0,by simp,fun j hj=>by omega⟩⟩
  ·rw[hE.fn T106]; simp +contextual only[push_cast,ac106,srcOf,get_old h2,h3,h0,hall,hb,Nat.zero_mul,simprocAttr];exact⟨_,_,_,rfl,rfl,own_new h3 h4 (Nat.le_add_right _ _) get_app⟩
theorem c69 {a:Option Addr}{n e:Nat}{L:Nat->List Value}(hS:SlW 14 h a n e L)(hn:n<100000000)(hs:∀j,j<n->(L j).all single=true) :
  PostV (evI E lim (.func 69) [.slice a n e] h) fun v h'=>∃a' e' l,v=.slice a' n e'/\h'=h++l/\OwnW 14 h' h.length a' n e' L:=by
 rcases hS with⟨rfl,rfl,rfl⟩ | ⟨b,o,own,cs,rfl,rfl,h2,h3,h4⟩
 ·rw[hE.fn T69]; simp +contextual only[push_cast,ac69,simprocAttr];exact⟨none,0,[],rfl,(List.append_nil h).symm,Or.inl ⟨rfl,rfl,rfl⟩⟩
 ·have hall:=chunk_all n h4 hs;have hb:n*216<=140737488355328:=by omega
  by_cases h0:n=0
  ·have h3':o+0<=cs.length:=by omega
   rw[hE.fn T69]; simp +contextual only[push_cast,ac69,srcOf,get_old h2,h3',h0,Nat.zero_mul,simprocAttr];refine⟨some ⟨h.length,0,none⟩,14,[.cells true []],rfl,rfl,Or.inr ⟨_,[],rfl,rfl,Nat.le_refl _,get_app0,by simp,fun j hj=>by omega⟩⟩
  ·rw[hE.fn T69]; simp +contextual only[push_cast,ac69,srcOf,get_old h2,h3,h0,hall,hb,Nat.zero_mul,simprocAttr];exact⟨_,_,_,rfl,rfl,own_new h3 h4 (Nat.le_add_right _ _) get_app⟩
theorem c70 {a:Option Addr}{n e:Nat}{L:Nat->List Value}(hS:SlW 2 h a n e L)(hn:n<100000000)(hs:∀j,j<n->(L j).all single=true) :
  PostV (evI E lim (.func 70) [.slice a n e] h) fun v h'=>∃a' e' l,v=.slice a' n e'/\h'=h++l/\OwnW 2 h' h.length a' n e' L:=by
 rcases hS with⟨rfl,rfl,rfl⟩ | ⟨b,o,own,cs,rfl,rfl,h2,h3,h4⟩
 ·rw[hE.fn T70]; simp +contextual only[push_cast,ac70,simprocAttr];exact⟨none,0,[],rfl,(List.append_nil h).symm,Or.inl ⟨rfl,rfl,rfl⟩⟩
 ·have hall:=chunk_all n h4 hs;have hb:n*16<=140737488355328:=by omega
  by_cases h0:n=0
  ·have h3':o+0<=cs.length:=by omega
   rw[hE.fn T70]; simp +contextual only[push_cast,ac70,srcOf,get_old h2,h3',h0,Nat.zero_mul,simprocAttr];refine⟨some ⟨h.length,0,none⟩,2,[.cells true []],rfl,rfl,Or.inr ⟨_,[],rfl,rfl,Nat.le_refl _,get_app0,by simp,fun j hj=>by omega⟩⟩
  ·rw[hE.fn T70]; simp +contextual only[push_cast,ac70,srcOf,get_old h2,h3,h0,hall,hb,Nat.zero_mul,simprocAttr];exact⟨_,_,_,rfl,rfl,own_new h3 h4 (Nat.le_add_right _ _) get_app⟩
end
section
structure ZN where
 z:ZD
 R:Option RD
 b:Nat
 r:Nat
def ZN.rp (Z:ZN):Value:=match Z.R with
 | none=>.pointer none
 | some _=>.pointer (some ⟨Z.r,0,none⟩)
structure ZN.In (Z:ZN)(h:Hp):Prop where
 blk:∃own,h[Z.b]?=some (.cells own [.slice Z.z.ta Z.z.tn Z.z.te,.slice Z.z.ma Z.z.mn Z.z.me,.slice Z.z.xa Z.z.xn Z.z.xe,.string Z.z.ft,Z.rp])
 zin:Z.z.In h
 rule:∀R,Z.R=some R->(∃own,h[Z.r]?=some (.cells own R.cs))/\R.std.size<1000000/\R.dst.size<1000000
 tn:1<=Z.z.tn
 mn:Z.z.mn<=4000
 off:∀j,j<Z.z.tn->-89999<=Z.z.off j/\Z.z.off j<=93599
 tu:Z.z.tn<=255
 right:∀R,Z.R=some R->R.Right
theorem ZN.In.grow {Z:ZN}{h l:Hp}(H:Z.In h):Z.In (h++l):=by
 obtain⟨⟨own,h1⟩,h2,h3,h4,h5,h6,h7,h8⟩:=H;exact⟨⟨own,get_old h1⟩,h2.grow,fun R hR=>let⟨⟨o,g1⟩,g2,g3⟩:=h3 R hR; ⟨⟨o,get_old g1⟩,g2,g3⟩,h4,h5,h6,h7,h8⟩
def zv:Option ZN->Value
 | none=>.pointer none
 | some Z=>.pointer (some ⟨Z.b,0,none⟩)
def zin (Z:Option ZN)(h:Hp):Prop:=∀Y,Z=some Y->Y.In h
theorem zin.grow {Z:Option ZN}{h l:Hp}(H:zin Z h):zin Z (h++l):=fun Y hY=>(H Y hY).grow
variable {E:Env}(hE:EnvT E){lim:Nat}{h:Hp}
include hE
theorem c140 {Z:ZN}(H:Z.In h){b c:Nat}{t:Int}{o1 o2:Bool}(hb:h[b]?=some (.cells o1 [.pointer (some ⟨Z.b,0,none⟩)]))(hc:h[c]?=some (.cells o2 [.int .i64 t])) :
  ∃r,evI E lim (.func 140) [.pointer (some ⟨b,0,none⟩),.pointer (some ⟨c,0,none⟩)] h=some (.bool r,h):=by
 obtain⟨own,hz⟩:=H.blk
 by_cases h0:Z.z.mn=0
 ·have g1:((Z.z.mn:Int)==0)=true:=by simp[h0]
  refine⟨true,?_⟩;rw[hE.fn T140]; simp +contextual only[push_cast,ac140,hb,hc,hz,g1,simprocAttr]
 ·obtain⟨mb,mo,mown,mcs,m0,m1,m2,m3,m4⟩:=H.zin.m (by omega);have g1:((Z.z.mn:Int)==0)=false:=by simpa using h0
  have g2:IntKind.i64.wrap ((Z.z.mn:Int)-1)=((Z.z.mn-1:Nat):Int):=by
   have:=H.mn;rw[wrap64 (by omega) (by omega)]; omega
  have g3:(((Z.z.mn-1:Nat):Int)<Z.z.mn)=True:=by simp; omega
  have g4:(0<=((Z.z.mn-1:Nat):Int))=True:=by simp
  have g5:=get1 (m4 (Z.z.mn-1) (by omega));rw[m0,m1] at hz;refine⟨_,by rw[hE.fn T140]; simp +contextual only[push_cast,ac140,hb,hc,hz,g1,g2,g3,g4,m2,g5,simprocAttr]; rfl⟩
theorem c81 {Z:Option ZN}(H:zin Z h)(sec:Int):PostV (evI E lim (.func 81) [zv Z,.int .i64 sec] h) fun v h'=>h'=h/\∃o,v=.int .i64 o/\-89999<=o/\o<=93599:=by
 cases Z with
 | none =>
  rw[hE.fn T81]; simp +contextual only[push_cast,ac81,zv,simprocAttr];exact⟨_,rfl,by omega,by omega⟩
 | some Z =>
  have HZ:=H Z rfl;have HG:∀l,Z.In (h++l):=fun l=>HZ.grow;obtain⟨own,hz⟩:=HZ.blk;obtain⟨t,ht⟩:∃t,max (-10000000000) (min 100000000000 sec)=t:=⟨_,rfl⟩;obtain⟨rr,er⟩:=c140 hE (HG [.cells true [.pointer (some ⟨Z.b,0,none⟩)],.cells true [.int .i64 t]]) (lim:=h.length) (b:=h.length) (c:=h.length+1) (t:=t) (by rw[get_app0]; rfl) (by rw[get_app]; rfl)
  have tail:∃o,(evI E h.length (.func 142) [.agg #[.slice Z.z.ta Z.z.tn Z.z.te,.slice Z.z.ma Z.z.mn Z.z.me,.slice Z.z.xa Z.z.xn Z.z.xe,.string Z.z.ft],.int .i64 t] (h++[.cells true [.pointer (some ⟨Z.b,0,none⟩)],.cells true [.int .i64 t]])=some (.int .i64 (o:Nat),h++[.cells true [.pointer (some ⟨Z.b,0,none⟩)],.cells true [.int .i64 t]]))/\o<Z.z.tn:=by
   obtain⟨v,h',e,rfl,r,rfl,hr⟩:=(c142 hE (HG [.cells true [.pointer (some ⟨Z.b,0,none⟩)],.cells true [.int .i64 t]]).zin t (lim:=h.length)).out;exact⟨r,e,hr HZ.tn⟩
  obtain⟨o,eo,ho⟩:=tail;obtain⟨tb,to,town,tcs,t0,t1,t2,t3,t4⟩:=HZ.zin.t (by omega);have t5:=t4 o ho
  have g0:tcs[to+o*3]?=some (.int .i64 (Z.z.off o)):=by
   have:=congrArg (fun l=>l[0]?) t5;simpa[List.getElem?_take,List.getElem?_drop] using this
  have g3:((o:Int)<Z.z.tn)=True:=by simp[ho]
  have g4:(0<=(o:Int))=True:=by simp
  rw[t0,t1] at hz eo;have b1:=HZ.off o ho;cases hR:Z.R with
  | none =>
   have hrp:Z.rp=.pointer none:=by simp[ZN.rp,hR]
   rw[hrp] at hz;rw[hE.fn T81]; simp +contextual only[push_cast,ac81,zv,get_old hz,ht,eo,g3,g4,get_old t2,g0,Nat.add_zero,simprocAttr];exact⟨_,rfl,by omega,by omega⟩
  | some R =>
   obtain⟨⟨ro,hr1⟩,hr2,hr3⟩:=HZ.rule R hR;have hrp:Z.rp=.pointer (some ⟨Z.r,0,none⟩):=by simp[ZN.rp,hR]
   rw[hrp] at hz;cases rr with
   | false =>
    rw[hE.fn T81]; simp +contextual only[push_cast,ac81,zv,get_old hz,ht,er,eo,g3,g4,get_old t2,g0,Nat.add_zero,simprocAttr];exact⟨_,rfl,by omega,by omega⟩
   | true =>
    obtain⟨v,h',e,rfl,o2,b2,rfl,q1,q2⟩:=(c141 hE R t (by omega) (by omega) (lim:=h.length) (h:=h++[.cells true [.pointer (some ⟨Z.b,0,none⟩)],.cells true [.int .i64 t]])).out;simp only[RD.cs] at e hr1;rw[hE.fn T81]; simp +contextual only[push_cast,ac81,zv,get_old hz,ht,er,get_old hr1,e,simprocAttr];exact⟨_,rfl,by omega,by omega⟩
theorem c41 {Z:Option ZN}(H:zin Z h)(u:Int)(h1:-9223372036854775808<=u)(h2:u<=9223372036854775807):PostV (evI E lim (.func 41) [zv Z,.int .i64 u] h) fun v h'=>h'=h/\∃y m d H M S us e,v=.tuple #[.agg #[.int .i64 y,.int .i64 m,.int .i64 d,.int .i64 H,.int .i64 M,.int .i64 S,.int .i64 us],.int .i64 e]:=by
 rw[hE.fn T41]; simp +contextual only[push_cast,ac41,c82 hE u 1000000 h1 h2 (by omega) (by omega),simprocAttr];refine(c81 hE H.grow _).mono ?_;rintro v h' ⟨rfl,o,rfl,o1,o2⟩;cases hc:(decide (IntKind.i64.wrap (u+IntKind.i64.wrap (o*1000000))<u)==decide (IntKind.i64.wrap (o*1000000)<0)) with
 | false =>
  simp +contextual only[push_cast,eqV,lksEq,lkEq,hc,simprocAttr];exact⟨_,_,_,_,_,_,_,_,rfl⟩
 | true =>
  have w:∀n,-9223372036854775808<=IntKind.i64.wrap n/\IntKind.i64.wrap n<=9223372036854775807:=by
   intro n;simp only[IntKind.wrap,IntKind.bits,IntKind.signed];simp;split<;>omega
  obtain⟨s,hs⟩:∃s,IntKind.i64.wrap (u+IntKind.i64.wrap (o*1000000))=s:=⟨_,rfl⟩;have:=w (u+IntKind.i64.wrap (o*1000000));rw[hs] at this hc
  by_cases hin:-62135596800000000<=s/\s<253402300800000000
  ·simp +contextual only[push_cast,eqV,lksEq,lkEq,hs,hc,c83 hE s hin.1 hin.2,simprocAttr];exact⟨_,_,_,_,_,_,_,_,rfl⟩
  ·simp +contextual only[push_cast,eqV,lksEq,lkEq,hs,hc,c83_out hE s this.1 this.2 (by omega),simprocAttr];exact⟨_,_,_,_,_,_,_,_,rfl⟩
end
section
def ints (xs:List Int):List Value:=xs.map (Value.int .i64)
theorem ints_len (xs:List Int):(ints xs).length=xs.length:=List.length_map _
theorem ints_get {xs:List Int}{i:Nat}(h:i<xs.length):(ints xs)[i]?=some (.int .i64 (xs.getD i 0)):=by
 simp[ints,List.getElem?_map,List.getD_eq_getElem?_getD,h]
theorem ints_set (xs:List Int)(i:Nat)(x:Int):(ints xs).set i (.int .i64 x)=ints (xs.set i x):=by simp[ints,List.map_set]
theorem getD_set {xs:List Int}{i j:Nat}{x:Int}(h:i<xs.length):(xs.set i x).getD j 0=if i=j then x else xs.getD j 0:=by
 by_cases e:i=j
 ·subst e; simp[List.getD_eq_getElem?_getD,h]
 ·simp[List.getD_eq_getElem?_getD,e]
theorem lay_ints:∀(m o:Nat) (xs:List Int),o+m<=xs.length->∃xs',lay (ints xs) o (repl m [.int .i64 0])=ints xs'/\xs'.length=xs.length/\∀j,j<o->xs'.getD j 0=xs.getD j 0
 | 0,o,xs,_=>⟨xs,rfl,rfl,fun _ _=>rfl⟩
 | m+1,o,xs,h=>by
  obtain⟨xs',e,hl,hg⟩:=lay_ints m (o+1) (xs.set o 0) (by simp; omega);refine⟨xs',?_,by rw[hl]; simp,fun j hj=>?_⟩
  ·have:repl (m+1) [Value.int .i64 0]=.int .i64 0::repl m [.int .i64 0]:=by simp[repl,List.replicate_succ]
   rw[this];simp only[lay,ints_set];exact e
  ·rw[hg j (by omega),getD_set (by omega),if_neg (by omega)]
theorem repl_len (m:Nat):(repl m [Value.int .i64 0]).length=m:=by induction m<;>simp_all [repl,List.replicate_succ]
theorem repl_single (m:Nat):(repl m [Value.int .i64 0]).all single=true:=by induction m<;>simp_all [repl,List.replicate_succ,single]
theorem repl_flat (m:Nat):(repl m [Value.int .i64 0]).all flat1=true:=by induction m<;>simp_all [repl,List.replicate_succ,flat1]
theorem ints_slK {xs:List Int}{n:Nat}(hn:n<=xs.length){b:Nat}{h:Hp}(hb:h[b]?=some (.cells true (ints xs))):SlK 1 h (some ⟨b,0,none⟩) n 1 fun j=>[.int .i64 (xs.getD j 0)]:=by
 intro h0;refine⟨b,0,true,ints xs,rfl,rfl,hb,by rw[ints_len]; omega,fun j hj=>?_⟩;have:=ints_get (xs:=xs) (i:=j) (by omega);obtain⟨hlt,he⟩:=List.getElem?_eq_some_iff.1 this;rw[Nat.zero_add,Nat.mul_one,List.drop_eq_getElem_cons hlt,he];rfl
variable {E:Env}(hE:EnvT E){lim:Nat}{h:Hp}
include hE
theorem c179 {b:Nat}{xs:List Int}{n p:Nat}{fa fb:Array Value}{P:Int->Prop}(hb:h[b]?=some (.cells true (ints xs)))(hn:n<=xs.length)(hl:xs.length<1000000)
  (hp:∀lim X x,∃r,evI E lim (.func (p:FuncId)) (fa.toList++[.int .i64 x]++fb.toList) (h.set b X)=some (.bool r,h.set b X)/\(r=false->P x)) :
  PostV (evI E lim (.func 179) [.slice (some ⟨b,0,none⟩) n 1,.func (.func p) fa fb] h) fun v h'=>∃(n':Nat) (xs':List Int),v=.slice (some ⟨b,0,none⟩) n' 1/\n'<=n/\h'=h.set b (.cells true (ints xs'))/\xs'.length=xs.length/\∀j,j<n'->P (xs'.getD j 0):=by
 have hlt:=lt_of_get hb
 have hq:∀j:Nat,∃r,evI E h.length (.func (p:FuncId)) (fa.toList++[.int .i64 (xs.getD j 0)]++fb.toList) h=some (.bool r,h)/\(r=false->P (xs.getD j 0)):=fun j=>by
  have:=hp h.length (.cells true (ints xs)) (xs.getD j 0);rw[set_same hb] at this;exact this
 obtain⟨q,hq'⟩:∃q:Nat->Bool,∀j,evI E h.length (.func (p:FuncId)) (fa.toList++[.int .i64 (xs.getD j 0)]++fb.toList) h=some (.bool (q j),h)/\(q j=false->P (xs.getD j 0)):=⟨fun j=>Classical.choose (hq j),fun j=>Classical.choose_spec (hq j)⟩;have e1:=c244 hE (lim:=lim) (p:=p) (fa:=fa) (fb:=fb) (q:=q) (ints_slK hn hb) (by omega) fun j _=>(hq' j).1;have hq2:∀j,q j=false->P (xs.getD j 0):=fun j=>(hq' j).2;obtain⟨i1,i2,i3⟩:=findI_in q n 0
 by_cases hi:findI q 0 n<0
 ·have e2:findI q 0 n=-1:=by omega
  rw[e2] at e1;rw[hE.fn T179]; simp +contextual only[push_cast,ac179,e1,simprocAttr];exact⟨n,xs,rfl,Nat.le_refl _,(set_same hb).symm,rfl,fun j hj=>hq2 j (findI_none q n 0 hi j (by omega) (by omega))⟩
 ·obtain⟨i,hie⟩:∃i:Nat,findI q 0 n=i:=⟨(findI q 0 n).toNat,by omega⟩;rw[hie] at e1 i2
  have hpre:∀j,j<i->q j=false:=by
   intro j hj
   have hnone:∀(m s:Nat),findI q s m=i->∀j,s<=j->j<i->q j=false:=by
    intro m
    induction m with
    | zero=>intro s hs; simp[findI] at hs
    | succ m ih =>
     intro s hs j h1 h2;simp only[findI] at hs;split at hs
     ·omega
     ·rename_i hqs
      by_cases e:j=s
      ·subst e; simpa using hqs
      ·exact ih (s+1) hs j (by omega) h2
   exact hnone n 0 hie j (by omega) hj
  have g1:((i:Int)==-1)=false:=by simp
  have g2:=wn1 (i:=i);rw[hE.fn T179]; simp +contextual only[push_cast,ac179,e1,g1,g2,simprocAttr];refine loop_post hE.mono (fun k f X=>∃(w j:Nat) (ys:List Int),w<j/\j<=n/\n-j=k/\f.rd 0=.slice (some ⟨b,0,none⟩) n 1/\f.rd 1=.func (.func p) fa fb/\f.rd 5=.int .i64 w/\f.rd 6=.int .i64 j/\X=h.set b (.cells true (ints ys))/\ys.length=xs.length/\∀u,u<w->P (ys.getD u 0)) ?_ (n-(i+1)) _ _ ?_
  ·rintro k f X ⟨w,j,ys,hw,hj,hk,f0,f1,f5,f6,rfl,hly,hP⟩
   by_cases hjn:j<n
   ·have a1:((j:Int)<n)=True:=by simp[hjn]
    have a2:(0<=(j:Int))=True:=by simp
    have a3:((w:Int)<n)=True:=by simp; omega
    have a4:(0<=(w:Int))=True:=by simp
    have a5:=wn1 (i:=j);have a6:=wn1 (i:=w);have a7:=ints_get (xs:=ys) (i:=j) (by omega);have a8:w+1<=(ints ys).length:=by rw[ints_len]; omega
    obtain⟨r,er,hr⟩:=hp lim (.cells true (ints ys)) (ys.getD j 0);cases r with
    | true =>
     simp +contextual only[push_cast,lp179_0,f0,f1,f5,f6,a1,a2,a5,a7,er,set_get hlt,Nat.mul_one,simprocAttr];exact⟨n-(j+1),by omega,w,j+1,ys,by omega,by omega,rfl,rfl,rfl,rfl,hly,hP⟩
    | false =>
     simp +contextual only[push_cast,lp179_0,f0,f1,f5,f6,a1,a2,a3,a4,a5,a6,a7,a8,er,set_get hlt,Nat.mul_one,ints_set,simprocAttr];refine⟨n-(j+1),by omega,w+1,j+1,_,by omega,by omega,rfl,rfl,rfl,rfl,by simp[hly],fun u hu=>?_⟩;rw[getD_set (by omega)];split
     ·exact hr rfl
     ·exact hP u (by omega)
   ·have a1:((j:Int)<n)=False:=by simp; omega
    have b1:(0<=(w:Int))=True:=by simp
    have b2:((w:Int)<=n)=True:=by simp; omega
    have b3:w+(n-w)<=ys.length:=by omega
    have b4:w+(repl (n-w) [Value.int .i64 0]).length<=(ints ys).length:=by rw[repl_len,ints_len]; omega
    obtain⟨zs,ez,hlz,hgz⟩:=lay_ints (n-w) w ys b3;have b5:w<=n:=by omega
    simp +contextual only[push_cast,lp179_0,f0,f1,f5,f6,a1,bound,b1,b2,b4,b5,Option.map_none,set_get hlt,repl_single,repl_flat,Nat.mul_one,ez,Nat.sub_zero,Nat.zero_le,Int.le_refl,Nat.zero_mul,Int.ofNat_le,simprocAttr];exact⟨w,zs,rfl,by omega,rfl,by omega,fun u hu=>by rw[hgz u hu]; exact hP u hu⟩
  ·exact⟨i,i+1,xs,by omega,by omega,rfl,rfl,rfl,rfl,rfl,(set_same hb).symm,rfl,fun u hu=>hq2 u (hpre u hu)⟩
theorem c182 {b:Nat}{xs:List Int}{n:Nat}{P:Int->Prop}(hb:h[b]?=some (.cells true (ints xs)))(hn:n<=xs.length)(hl:xs.length<1000000)(hP:∀j,j<n->P (xs.getD j 0)) :
  PostV (evI E lim (.func 182) [.slice (some ⟨b,0,none⟩) n 1] h) fun v h'=>∃(n':Nat) (xs':List Int),v=.slice (some ⟨b,0,none⟩) n' 1/\n'<=n/\(1<=n->1<=n')/\h'=h.set b (.cells true (ints xs'))/\xs'.length=xs.length/\∀j,j<n'->P (xs'.getD j 0):=by
 have hlt:=lt_of_get hb
 by_cases h2:n<2
 ·have g1:((n:Int)<2)=True:=by simp; omega
  rw[hE.fn T182]; simp +contextual only[push_cast,ac182,g1,simprocAttr];exact⟨n,xs,rfl,Nat.le_refl _,fun h=>h,(set_same hb).symm,rfl,hP⟩
 ·have g1:((n:Int)<2)=False:=by simp; omega
  rw[hE.fn T182]; simp +contextual only[push_cast,ac182,g1,simprocAttr];refine loop_post hE.mono (fun k f X=>∃i:Nat,1<=i/\i<=n/\n-i=k/\f.rd 0=.slice (some ⟨b,0,none⟩) n 1/\f.rd 3=.int .i64 i/\X=h) ?_ (n-1) _ _ ?_
  ·rintro k f X ⟨i,i1,i2,hk,f0,f3,rfl⟩
   by_cases hin:i<n
   ·have a1:((i:Int)<n)=True:=by simp[hin]
    have a2:(0<=(i:Int))=True:=by simp
    have a3:IntKind.i64.wrap ((i:Int)-1)=((i-1:Nat):Int):=by rw[wrap64 (by omega) (by omega)]; omega
    have a4:(((i-1:Nat):Int)<n)=True:=by simp; omega
    have a5:(0<=((i-1:Nat):Int))=True:=by simp
    have a6:=ints_get (xs:=xs) (i:=i) (by omega);have a7:=ints_get (xs:=xs) (i:=i-1) (by omega);have a8:=wn1 (i:=i);have a9:((i:Int)<=n)=True:=by simp; omega
    cases hq:(xs.getD i 0==xs.getD (i-1) 0) with
    | false =>
     simp +contextual only[push_cast,lp182_1,f0,f3,a1,a2,a3,a4,a5,a6,a7,a8,hb,hq,Nat.mul_one,simprocAttr];exact⟨n-(i+1),by omega,i+1,by omega,by omega,rfl,rfl⟩
    | true =>
     simp +contextual only[push_cast,lp182_1,f0,f3,a1,a2,a3,a4,a5,a6,a7,a9,hb,hq,Nat.mul_one,bound,Option.map_none,Int.le_refl,simprocAttr];refine loop_post hE.mono (fun k f Y=>∃(w j:Nat) (ys:List Int),1<=w/\1<=j/\j<=n-i/\w+1<=i+j/\n-i-j=k/\f.rd 0=.slice (some ⟨b,0,none⟩) n 1/\f.rd 3=.int .i64 w/\f.rd 4=.slice (some ⟨b,i,none⟩) (n-i) 1/\f.rd 5=.int .i64 j/\Y=X.set b (.cells true (ints ys))/\ys.length=xs.length/\∀u,u<n->P (ys.getD u 0)) ?_ (n-i-1) _ _ ?_
     ·clear a1 a2 a3 a4 a5 a6 a7 a8 a9;rintro k f Y ⟨w,j,ys,w1,j1,j2,hwj,hk,f0,f3,f4,f5,rfl,hly,hPy⟩
      by_cases hjn:j<n-i
      ·have a1:((j:Int)<((n-i:Nat):Int))=True:=by simp; omega
       have a2:(0<=(j:Int))=True:=by simp
       have a3:IntKind.i64.wrap ((j:Int)-1)=((j-1:Nat):Int):=by rw[wrap64 (by omega) (by omega)]; omega
       have a4:(((j-1:Nat):Int)<((n-i:Nat):Int))=True:=by simp; omega
       have a5:(0<=((j-1:Nat):Int))=True:=by simp
       have a6:=ints_get (xs:=ys) (i:=i+j) (by omega);have a7:=ints_get (xs:=ys) (i:=i+(j-1)) (by omega);have a8:=wn1 (i:=j);have a9:=wn1 (i:=w);have b1:((w:Int)<n)=True:=by simp; omega
       have b2:(0<=(w:Int))=True:=by simp
       have b3:w+1<=(ints ys).length:=by rw[ints_len]; omega
       cases hr:(ys.getD (i+j) 0==ys.getD (i+(j-1)) 0) with
       | true =>
        simp only[push_cast,lp182_0,f0,f3,f4,f5,a1,a2,a3,a4,a5,a6,a7,a8,set_get hlt,hr,Nat.mul_one,simprocAttr];exact⟨n-i-(j+1),by omega,w,j+1,ys,by omega,by omega,by omega,by omega,rfl,rfl,rfl,rfl,hly,hPy⟩
       | false =>
        simp only[push_cast,lp182_0,f0,f3,f4,f5,a1,a2,a3,a4,a5,a6,a7,a8,a9,b1,b2,b3,set_get hlt,hr,Nat.mul_one,ints_set,simprocAttr];refine⟨n-i-(j+1),by omega,w+1,j+1,_,by omega,by omega,by omega,by omega,rfl,rfl,rfl,rfl,by simp[hly],fun u hu=>?_⟩;rw[getD_set (by omega)];split<;>exact hPy _ (by omega)
      ·have a1:((j:Int)<((n-i:Nat):Int))=False:=by simp; omega
       have b1:(0<=(w:Int))=True:=by simp
       have b2:((w:Int)<=n)=True:=by simp; omega
       have b4:w+(repl (n-w) [Value.int .i64 0]).length<=(ints ys).length:=by rw[repl_len,ints_len]; omega
       obtain⟨zs,ez,hlz,hgz⟩:=lay_ints (n-w) w ys (by omega);have b5:w<=n:=by omega
       simp only[push_cast,lp182_0,f0,f3,f4,f5,a1,bound,b1,b2,b4,b5,Option.map_none,set_get hlt,repl_single,repl_flat,Nat.mul_one,ez,Nat.sub_zero,Nat.zero_le,Int.le_refl,Nat.zero_mul,Int.ofNat_le,simprocAttr];exact⟨w,zs,rfl,by omega,fun _=>by omega,rfl,by omega,fun u hu=>by rw[hgz u hu]; exact hPy u (by omega)⟩
     ·exact⟨i,1,xs,by omega,by omega,by omega,by omega,rfl,by simp +contextual only[push_cast,f0,simprocAttr],by simp +contextual only[push_cast,f3,simprocAttr],by simp +contextual only[push_cast,simprocAttr],by simp +contextual only[push_cast,simprocAttr],(set_same hb).symm,rfl,hP⟩
   ·have:i=n:=by omega
    subst this;simp +contextual only[push_cast,lp182_1,f0,f3,Int.lt_irrefl,simprocAttr];exact⟨i,xs,rfl,Nat.le_refl _,fun h=>h,(set_same hb).symm,rfl,hP⟩
  ·exact⟨1,by omega,by omega,rfl,rfl,rfl,rfl⟩
end
section
variable {E:Env}(hE:EnvT E){lim:Nat}{h:Hp}
include hE
theorem c178 {Z:ZN}(H:Z.In h){fr to:Int}(f1:-9999999999<=fr)(f2:fr<=100000000000)(t1:-9999999999<=to)(t2:to<=100000000000) :
  PostV (evI E lim (.func 178) [.pointer (some ⟨Z.b,0,none⟩),.int .i64 fr,.int .i64 to] h) fun v h'=>∃l,h'=h++l/\(v=.slice none 0 0\/∃m xs,v=.slice (some ⟨h.length+m,0,none⟩) xs.length 1/\l[m]?=some (.cells true (ints xs))/\xs.length<=50000):=by
 obtain⟨own,hz⟩:=H.blk;cases hR:Z.R with
 | none =>
  have hrp:Z.rp=.pointer none:=by simp[ZN.rp,hR]
  rw[hrp] at hz;rw[hE.fn T178]; simp +contextual only[push_cast,ac178,hz,simprocAttr];exact⟨[],(List.append_nil h).symm⟩
 | some R =>
  obtain⟨⟨ro,hr1⟩,hr2,hr3⟩:=H.rule R hR;have hrp:Z.rp=.pointer (some ⟨Z.r,0,none⟩):=by simp[ZN.rp,hR]
  rw[hrp] at hz;simp only[RD.cs] at hr1;cases hd:(R.dst.toList==ByteArray.toList ⟨#[]⟩) with
  | true =>
   rw[hE.fn T178]; simp +contextual only[push_cast,ac178,hz,hr1,hd,simprocAttr];exact⟨[],(List.append_nil h).symm⟩
  | false =>
   have w1:=w64 (x:=fr*1000000);have w2:=w64 (x:=to*1000000);obtain⟨y1,hy1⟩:∃y,(ofF (fr*1000000/86400000000)).1=y:=⟨_,rfl⟩;obtain⟨y2,hy2⟩:∃y,(ofF (to*1000000/86400000000)).1=y:=⟨_,rfl⟩;have b1:=ofF_year (n:=fr*1000000/86400000000) (by omega) (by omega);have b2:=ofF_year (n:=to*1000000/86400000000) (by omega) (by omega);rw[hy1] at b1;rw[hy2] at b2;have w3:=w64 (x:=y1-2);have w4:=w64 (x:=y2+2);rw[hE.fn T178]; simp +contextual only[push_cast,ac178,hz,hr1,hd,w1,w2,c83 hE (fr*1000000) (by omega) (by omega),c83 hE (to*1000000) (by omega) (by omega),hy1,hy2,w3,simprocAttr];generalize (ofF (fr*1000000/86400000000)).2.1=m1;generalize (ofF (fr*1000000/86400000000)).2.2=d1;generalize (ofF (to*1000000/86400000000)).2.1=m2;generalize (ofF (to*1000000/86400000000)).2.2=d2;generalize clockF (fr*1000000)=k1;generalize clockF (to*1000000)=k2
   refine loop_post hE.mono (fun k f X=>∃(y:Int) (l:Hp),y1-2<=y/\y<=20000/\(y2+3-y).toNat=k/\f.rd 0=.pointer (some ⟨Z.b,0,none⟩)/\f.rd 9=.pointer (some ⟨h.length+1,0,none⟩)/\f.rd 12=.int .i64 y /\
    X=h++(.cells true [.int .i64 y1,.int .i64 m1,.int .i64 d1,.int .i64 k1.1,.int .i64 k1.2.1,.int .i64 k1.2.2.1,.int .i64 k1.2.2.2]::.cells true [.int .i64 y2,.int .i64 m2,.int .i64 d2,.int .i64 k2.1,.int .i64 k2.2.1,.int .i64 k2.2.2.1,.int .i64 k2.2.2.2]::l) /\
    (f.rd 11=.slice none 0 0\/∃m xs,f.rd 11=.slice (some ⟨h.length+(m+2),0,none⟩) xs.length 1/\l[m]?=some (.cells true (ints xs))/\(xs.length:Int)<=2*(y-(y1-2)))) ?_ (y2+3-(y1-2)).toNat _ _ ?_
   ·rintro k f X ⟨y,l,g1,g2,hk,q0,q9,q12,rfl,q11⟩
    by_cases hy:y<=y2+2
    ·have w5:=w64 (x:=y+1);obtain⟨v,h',e1,rfl,n1,x1,rfl,a1,a2⟩:=(c205 hE R.st y (lim:=lim) (h:=h++(.cells true [.int .i64 y1,.int .i64 m1,.int .i64 d1,.int .i64 k1.1,.int .i64 k1.2.1,.int .i64 k1.2.2.1,.int .i64 k1.2.2.2]::.cells true [.int .i64 y2,.int .i64 m2,.int .i64 d2,.int .i64 k2.1,.int .i64 k2.2.1,.int .i64 k2.2.2.1,.int .i64 k2.2.2.2]::l))).out;obtain⟨v,h',e2,rfl,n2,x2,rfl,a3,a4⟩:=(c205 hE R.en y (lim:=lim) (h:=h++(.cells true [.int .i64 y1,.int .i64 m1,.int .i64 d1,.int .i64 k1.1,.int .i64 k1.2.1,.int .i64 k1.2.2.1,.int .i64 k1.2.2.2]::.cells true [.int .i64 y2,.int .i64 m2,.int .i64 d2,.int .i64 k2.1,.int .i64 k2.2.1,.int .i64 k2.2.2.1,.int .i64 k2.2.2.2]::l))).out;rcases q11 with q11 | ⟨m,xs,q11,hm,hlen⟩
     ·simp only[push_cast,lp178_0,q0,q9,q11,q12,get_old hz,get_old hr1,w4,w5,hy,e1,e2,srcOf,Nat.mul_one,get_cons,len_cons,simprocAttr];exact⟨(y2+3-(y+1)).toNat,by omega,y+1,_,by omega,by omega,rfl,rfl,rfl,Or.inr ⟨l.length+1,[IntKind.i64.wrap (n1-R.off),IntKind.i64.wrap (n2-R.dof)],rfl,by simp[ints],by simp; omega⟩⟩
     ·have hml:=(List.getElem?_eq_some_iff.1 hm).1;have hgl:∀k2,(l++k2)[m]?=some (.cells true (ints xs)):=fun k2=>get_old hm;have hsl:∀k2 x,(l++k2).set m x=l.set m x++k2:=fun k2 x=>set_old hml;have c1:((xs.length+2)*8<=140737488355328)=True:=by simp; omega
      have c2:(xs.length=(ints xs).length)=True:=by simp[ints_len]
      simp only[push_cast,lp178_0,q0,q9,q11,q12,get_old hz,get_old hr1,w4,w5,hy,e1,e2,srcOf,Nat.mul_one,get_cons,len_cons,hgl,hsl,c1,c2,simprocAttr];exact⟨(y2+3-(y+1)).toNat,by omega,y+1,_,by omega,by omega,rfl,rfl,rfl,Or.inr ⟨l.length+1,xs++[IntKind.i64.wrap (n1-R.off),IntKind.i64.wrap (n2-R.dof)],by simp,by simp[ints],by simp; omega⟩⟩
    ·simp only[push_cast,lp178_0,q0,q9,q12,w4,hy,simprocAttr];refine⟨_,rfl,?_⟩;rcases q11 with q11 | ⟨m,xs,q11,hm,hlen⟩
     ·exact Or.inl q11
     ·exact Or.inr ⟨m+2,xs,q11,by simpa using hm,by omega⟩
   ·exact⟨y1-2,[],by omega,by omega,rfl,rfl,rfl,rfl,rfl,Or.inl rfl⟩
theorem c180 {Z:Option ZN}(H:zin Z h){a b c:Nat}{fr to t:Int}{o1 o2 o3:Bool}(ha:h[a]?=some (.cells o1 [.int .i64 fr]))(hb:h[b]?=some (.cells o2 [.int .i64 to]))(hc:h[c]?=some (.cells o3 [zv Z])) :
  ∃r,evI E lim (.func 180) [.int .i64 t,.pointer (some ⟨a,0,none⟩),.pointer (some ⟨b,0,none⟩),.pointer (some ⟨c,0,none⟩)] h=some (.bool r,h)/\(r=false->fr<t/\t<=to):=by
 obtain⟨v,h',e1,rfl,x1,rfl,a1,a2⟩:=(c81 hE H t (lim:=h.length)).out;obtain⟨v,h',e2,rfl,x2,rfl,a3,a4⟩:=(c81 hE H (IntKind.i64.wrap (t-1)) (lim:=h'.length)).out;cases Z with
 | none =>
  simp only[zv] at *;refine⟨_,by rw[hE.fn T180]; simp +contextual only[push_cast,ac180,ha,hb,hc,e1,e2,simprocAttr]; rfl,fun hr=>?_⟩;simp only[Bool.or_eq_false_iff,decide_eq_false_iff_not] at hr;omega
 | some Z =>
  simp only[zv] at *;refine⟨_,by rw[hE.fn T180]; simp +contextual only[push_cast,ac180,ha,hb,hc,e1,e2,simprocAttr]; rfl,fun hr=>?_⟩;simp only[Bool.or_eq_false_iff,decide_eq_false_iff_not] at hr;omega
def SortOk (E:Env):Prop:=∀(lim:Nat) (h:Hp) (b:Nat) (xs:List Int) (n:Nat) (P:Int->Prop),h[b]?=some (.cells true (ints xs))->n<=xs.length->n<1000000->(∀j,j<n->P (xs.getD j 0)) ->
 PostV (evI E lim (.func 181) [.slice (some ⟨b,0,none⟩) n 1] h) fun v h'=>v=undef/\∃xs',h'=h.set b (.cells true (ints xs'))/\xs'.length=xs.length/\∀j,j<n->P (xs'.getD j 0)
def SortNil (E:Env):Prop:=∀(lim:Nat) (h:Hp),evI E lim (.func 181) [.slice none 0 0] h=some (undef,h)
omit hE in
theorem chunk_ints {cs:List Value} {o:Nat} {f:Nat->Int}:∀(n:Nat),(∀j,j<n->(cs.drop (o+j*1)).take 1=[.int .i64 (f j)])->(cs.drop o).take (n*1)=ints ((List.range n).map f)
 | 0,_=>by simp[ints]
 | n+1,h=>by
  have ih:=chunk_ints n fun j hj=>h j (by omega)
  have e:(cs.drop o).take ((n+1)*1)=(cs.drop o).take (n*1)++((cs.drop o).drop (n*1)).take 1:=by
   rw[Nat.add_mul,Nat.one_mul,List.take_add]
  rw[e,ih,List.drop_drop,h n (by omega),List.range_succ,List.map_append];simp[ints]
omit hE in
theorem ints_single (xs:List Int):(ints xs).all single=true:=by simp[ints,single]
theorem c179n {p:Nat}{fa fb:Array Value}:evI E lim (.func 179) [.slice none 0 0,.func (.func p) fa fb] h=some (.slice none 0 0,h):=by
 have e1:=c244 hE (lim:=lim) (h:=h) (a:=none) (n:=0) (e:=0) (V:=fun _=>undef) (p:=p) (fa:=fa) (fb:=fb) (q:=fun _=>false) SlK.nil (by omega) (fun j hj=>absurd hj (Nat.not_lt_zero j));rw[hE.fn T179]; simp only[push_cast,ac179,e1,findI,simprocAttr]
theorem c182n:evI E lim (.func 182) [.slice none 0 0] h=some (.slice none 0 0,h):=by
 rw[hE.fn T182]; simp only[push_cast,ac182,Int.ofNat_zero,simprocAttr]
theorem c179L {Z:ZN}(H:Z.In h){L:Hp}{k n:Nat}{xs:List Int}{fr to:Int}(h0:L[0]?=some (.cells true [.pointer (some ⟨Z.b,0,none⟩)]))(h1:L[1]?=some (.cells true [.int .i64 fr]))(h2:L[2]?=some (.cells true [.int .i64 to]))(hk:3<=k)
  (hb:L[k]?=some (.cells true (ints xs)))(hn:n<=xs.length)(hl:xs.length<1000000) :
  PostV (evI E lim (.func 179) [.slice (some ⟨h.length+k,0,none⟩) n 1,.func (.func 180) #[] #[.pointer (some ⟨h.length+1,0,none⟩),.pointer (some ⟨h.length+2,0,none⟩),.pointer (some ⟨h.length,0,none⟩)]] (h++L)) fun v h' =>
   ∃(n':Nat) (xs':List Int),v=.slice (some ⟨h.length+k,0,none⟩) n' 1/\h'=h++L.set k (.cells true (ints xs'))/\n'<=xs'.length/\xs'.length<1000000/\∀j,j<n'->fr<xs'.getD j 0/\xs'.getD j 0<=to:=by
 refine(c179 hE (P:=fun x=>fr<x/\x<=to) (xs:=xs) (by rw[get_app]; exact hb) hn hl ?_).mono ?_
 ·intro lim X x;rw[set_app];have HZ:zin (some Z) (h++L.set k X):=fun Y hY=>by cases hY; exact H.grow
  exact c180 hE HZ (by rw[get_app,List.getElem?_set_ne (by omega)]; exact h1) (by rw[get_app,List.getElem?_set_ne (by omega)]; exact h2) (by rw[get_app0,List.getElem?_set_ne (by omega)]; exact h0)
 ·rintro v h' ⟨n',xs',rfl,hn',rfl,hl',hP⟩;exact⟨n',xs',rfl,by rw[set_app],by omega,by omega,hP⟩
theorem c118 (hS:SortOk E)(hN:SortNil E){Z:Option ZN}(H:zin Z h){fr to:Int}:PostV (evI E lim (.func 118) [zv Z,.int .i64 fr,.int .i64 to] h) fun v h'=>∃l,h'=h++l/\(v=.slice none 0 0\/∃m n xs,v=.slice (some ⟨h.length+m,0,none⟩) n 1/\l[m]?=some (.cells true (ints xs))/\n<=xs.length/\∀j,j<n->max (-9999999999) (min 100000000000 fr)<xs.getD j 0/\xs.getD j 0<=100000000000):=by
 cases Z with
 | none =>
  rw[hE.fn T118]; simp +contextual only[push_cast,ac118,zv,simprocAttr];exact⟨_,rfl⟩
 | some Z =>
  obtain⟨f2,hf⟩:∃f2,max (-9999999999) (min 100000000000 fr)=f2:=⟨_,rfl⟩;obtain⟨t2,ht⟩:∃t2,max (-9999999999) (min 100000000000 to)=t2:=⟨_,rfl⟩;rw[hf]
  by_cases hft:f2>=t2
  ·rw[hE.fn T118]; simp +contextual only[push_cast,ac118,zv,hf,ht,hft,simprocAttr];exact⟨_,rfl⟩
  ·have HZ:=H Z rfl;obtain⟨own,hz⟩:=HZ.blk;rw[hE.fn T118]; simp only[push_cast,ac118,zv,hf,ht,hft,get_old hz,simprocAttr];refine(c178 hE HZ.grow (by omega) (by omega) (by omega) (by omega)).mono ?_;have hmn:=HZ.mn;rintro v h' ⟨l,rfl,hv⟩;have hzero:∀(cs:List Value) (o:Nat),Z.z.mn=0->ints ((List.range Z.z.mn).map Z.z.tm)=[]:=fun cs o h=>by rw[h]; rfl
   rcases hv with rfl | ⟨m,ys,rfl,hm,hys⟩
   ·rcases HZ.zin.mw with⟨m0,m1,m2⟩ | ⟨mb,mo,mown,mcs,m0,m1,m2,m3,m4⟩
    ·rw[m0,m1,m2] at hz ⊢;simp only[push_cast,get_old hz,srcOf,get_cons,len_cons,c179n hE,hN _ _,c182n hE,simprocAttr];exact⟨_,rfl⟩
    ·rw[m0,m1] at hz ⊢;have ei:=chunk_ints _ m4
     by_cases hz0:Z.z.mn=0
     ·rw[hz0] at hz ⊢;have m3':mo+0<=mcs.length:=by omega
      simp only[push_cast,get_old hz,get_old m2,m3',srcOf,Nat.zero_mul,get_cons,len_cons,c179n hE,hN _ _,c182n hE,simprocAttr];exact⟨_,rfl⟩
     ·have c1:(Z.z.mn*8<=140737488355328)=True:=by simp; omega
      simp only[push_cast,get_old hz,get_old m2,m3,srcOf,ei,ints_single,c1,hz0,get_cons,len_cons,simprocAttr];have hkk:(Blk.cells true [Value.pointer (some ⟨Z.b,0,none⟩)]::.cells true [.int .i64 f2]::.cells true [.int .i64 t2]::(l++[.cells true (ints ((List.range Z.z.mn).map Z.z.tm))]))[l.length+1+1+1]?=some (.cells true (ints ((List.range Z.z.mn).map Z.z.tm))):=by simp
      refine(c179L hE HZ (n:=Z.z.mn) (xs:=(List.range Z.z.mn).map Z.z.tm) rfl rfl rfl (by omega) hkk (by simp<;>omega) (by simp<;>omega)).mono ?_;rintro v h' ⟨n1,x1,rfl,rfl,hn1,hl1,hP1⟩;simp only[push_cast,simprocAttr];refine(hS _ _ _ x1 n1 (fun x=>f2<x/\x<=t2) (by rw[get_app]; simp[List.length_map]) hn1 (by omega) hP1).mono ?_;rintro v h' ⟨rfl,x2,rfl,hl2,hP2⟩;simp only[push_cast,simprocAttr];refine(c182 hE (xs:=x2) (P:=fun x=>f2<x/\x<=t2) (by rw[get_app]; simp[List.length_map]) (by omega) (by omega) hP2).mono ?_;rintro v h' ⟨n3,x3,rfl,hn3,-,rfl,hl3,hP3⟩;simp only[push_cast,simprocAttr];exact⟨_,rfl,Or.inr ⟨l.length+1+1+1,n3,x3,rfl,by simp[List.length_map],by omega,fun j hj=>⟨(hP3 j hj).1,by have:=(hP3 j hj).2; omega⟩⟩⟩
   ·rw[show ∀x y z:Blk,(h++[x,y,z]).length+m=h.length+(m+3) from fun _ _ _=>by simp; omega];have hml:=(List.getElem?_eq_some_iff.1 hm).1;have hkk:∀l2,(Blk.cells true [Value.pointer (some ⟨Z.b,0,none⟩)]::.cells true [.int .i64 f2]::.cells true [.int .i64 t2]::(l++l2))[m+3]?=some (.cells true (ints ys)):=fun l2=>by simp; exact get_old hm
    have hkk0:(Blk.cells true [Value.pointer (some ⟨Z.b,0,none⟩)]::.cells true [.int .i64 f2]::.cells true [.int .i64 t2]::l)[m+3]?=some (.cells true (ints ys)):=by simp; exact hm
    rcases HZ.zin.mw with⟨m0,m1,m2⟩ | ⟨mb,mo,mown,mcs,m0,m1,m2,m3,m4⟩
    ·rw[m0,m1,m2] at hz ⊢;simp only[push_cast,get_old hz,srcOf,simprocAttr];refine(c179L hE HZ (n:=ys.length) (xs:=ys) rfl rfl rfl (by omega) hkk0 (by omega) (by omega)).mono ?_;rintro v h' ⟨n1,x1,rfl,rfl,hn1,hl1,hP1⟩;simp only[push_cast,simprocAttr];refine(hS _ _ _ x1 n1 (fun x=>f2<x/\x<=t2) (by rw[get_app]; simp[hml]) hn1 (by omega) hP1).mono ?_;rintro v h' ⟨rfl,x2,rfl,hl2,hP2⟩;simp only[push_cast,simprocAttr];refine(c182 hE (xs:=x2) (P:=fun x=>f2<x/\x<=t2) (by rw[get_app]; simp[hml]) (by omega) (by omega) hP2).mono ?_;rintro v h' ⟨n3,x3,rfl,hn3,-,rfl,hl3,hP3⟩;simp only[push_cast,simprocAttr];exact⟨_,rfl,Or.inr ⟨m+3,n3,x3,rfl,by simp[hml],by omega,fun j hj=>⟨(hP3 j hj).1,by have:=(hP3 j hj).2; omega⟩⟩⟩
    ·rw[m0,m1] at hz ⊢;have ei:=chunk_ints _ m4
     by_cases hz0:Z.z.mn=0
     ·rw[hz0] at hz ⊢;have m3':mo+0<=mcs.length:=by omega
      simp only[push_cast,get_old hz,get_old m2,m3',srcOf,Nat.zero_mul,simprocAttr];refine(c179L hE HZ (n:=ys.length) (xs:=ys) rfl rfl rfl (by omega) hkk0 (by omega) (by omega)).mono ?_;rintro v h' ⟨n1,x1,rfl,rfl,hn1,hl1,hP1⟩;simp only[push_cast,simprocAttr];refine(hS _ _ _ x1 n1 (fun x=>f2<x/\x<=t2) (by rw[get_app]; simp[hml]) hn1 (by omega) hP1).mono ?_;rintro v h' ⟨rfl,x2,rfl,hl2,hP2⟩;simp only[push_cast,simprocAttr];refine(c182 hE (xs:=x2) (P:=fun x=>f2<x/\x<=t2) (by rw[get_app]; simp[hml]) (by omega) (by omega) hP2).mono ?_;rintro v h' ⟨n3,x3,rfl,hn3,-,rfl,hl3,hP3⟩;simp only[push_cast,simprocAttr];exact⟨_,rfl,Or.inr ⟨m+3,n3,x3,rfl,by simp[hml],by omega,fun j hj=>⟨(hP3 j hj).1,by have:=(hP3 j hj).2; omega⟩⟩⟩
     ·have c1:((ys.length+Z.z.mn)*8<=140737488355328)=True:=by simp; omega
      have c2:(ys.length=(ints ys).length)=True:=by simp[ints_len]
      simp only[Nat.mul_one] at m3 ei;have hsl:∀k2 x,(l++k2).set m x=l.set m x++k2:=fun k2 x=>set_old hml;simp only[push_cast,get_old hz,get_old m2,m3,srcOf,ei,ints_single,c1,c2,hz0,get_cons,len_cons,hm,hsl,Nat.mul_one,simprocAttr];have hkk:(Blk.cells true [Value.pointer (some ⟨Z.b,0,none⟩)]::.cells true [.int .i64 f2]::.cells true [.int .i64 t2]::(l.set m .dead++[.cells true (ints ys++ints ((List.range Z.z.mn).map Z.z.tm))]))[l.length+1+1+1]?=some (.cells true (ints (ys++(List.range Z.z.mn).map Z.z.tm))):=by simp[ints]
      refine(c179L hE HZ (n:=ys.length+Z.z.mn) (xs:=ys++(List.range Z.z.mn).map Z.z.tm) rfl rfl rfl (by omega) hkk (by simp<;>omega) (by simp<;>omega)).mono ?_;rintro v h' ⟨n1,x1,rfl,rfl,hn1,hl1,hP1⟩;simp only[push_cast,simprocAttr];refine(hS _ _ _ x1 n1 (fun x=>f2<x/\x<=t2) (by rw[get_app]; simp[List.length_map]) hn1 (by omega) hP1).mono ?_;rintro v h' ⟨rfl,x2,rfl,hl2,hP2⟩;simp only[push_cast,simprocAttr];refine(c182 hE (xs:=x2) (P:=fun x=>f2<x/\x<=t2) (by rw[get_app]; simp[List.length_map]) (by omega) (by omega) hP2).mono ?_;rintro v h' ⟨n3,x3,rfl,hn3,-,rfl,hl3,hP3⟩;simp only[push_cast,simprocAttr];exact⟨_,rfl,Or.inr ⟨l.length+1+1+1,n3,x3,rfl,by simp[List.length_map],by omega,fun j hj=>⟨(hP3 j hj).1,by have:=(hP3 j hj).2; omega⟩⟩⟩
end
section
variable {E:Env}{lim:Nat}
def roundP (l:Nat)(R:Value->Hp->Prop)(y:AX)(_:Fr)(h3:Hp):Prop:=match y with
 | .norm=>∃h4,turn h3 l .busy .ready=some h4/\R (.bool true) h4
 | x=>∃h4,turn h3 l .busy (.over x)=some h4/\R (.bool false) h4
theorem roundP_norm {l:Nat}{R:Value->Hp->Prop}{f:Fr}{h:Hp}:roundP l R .norm f h=∃h4,turn h l .busy .ready=some h4/\R (.bool true) h4:=rfl
theorem roundP_ret {l:Nat}{R:Value->Hp->Prop}{f:Fr}{h:Hp}:roundP l R .ret f h=∃h4,turn h l .busy (.over .ret)=some h4/\R (.bool false) h4:=rfl
theorem roundP_exit {l i:Nat}{R:Value->Hp->Prop}{f:Fr}{h:Hp}:roundP l R (.exit i) f h=∃h4,turn h l .busy (.over (.exit i))=some h4/\R (.bool false) h4:=rfl
theorem yield_post (hM:EnvMono E){l n:Nat}{f:Fr}{ps:List Nat}{ca cb:Code}{aa ba:AC}{args:List Value}{h:Hp}{R:Value->Hp->Prop}(hl:h[l]?=some (.loop n f ps ca cb aa ba .ready))(ha:args.length=ps.length)
  (hp:Post (evK E lim aa (putL f ps args) h) fun x f1 h1=>x=.norm/\∃h2,turn h1 l .ready .busy=some h2/\Post (evK E lim ba f1 h2) (roundP l R)):PostV (evI E lim (.yield l) args h) R:=by
 match e1:evK E lim aa (putL f ps args) h,hp with
 | some (x,f1,h1),hp =>
  obtain⟨rfl,h2,e2,hp2⟩:=hp
  match e3:evK E lim ba f1 h2,hp2 with
  | some (y,f3,h3),hp2 =>
   obtain⟨n1,g1⟩:=(evK_iff hM).1 e1;obtain⟨n2,g2⟩:=(evK_iff hM).1 e3;have g1':=evC_mono (evF_mono hM n1 (max n1 n2) (Nat.le_max_left _ _) lim) (Nat.le_max_left n1 n2) g1;have g2':=evC_mono (evF_mono hM n2 (max n1 n2) (Nat.le_max_right _ _) lim) (Nat.le_max_right n1 n2) g2;cases y with
   | norm =>
    obtain⟨h4,t4,r4⟩:=hp2;refine PostV.of ((evI_iff hM).2 ⟨max n1 n2+1,?_⟩) r4;simp only[evF,hl,if_pos ha,g1',e2,g2',t4,Option.map_some]
   | exit i =>
    obtain⟨h4,t4,r4⟩:=hp2;refine PostV.of ((evI_iff hM).2 ⟨max n1 n2+1,?_⟩) r4;simp only[evF,hl,if_pos ha,g1',e2,g2',t4,Option.map_some]
   | ret =>
    obtain⟨h4,t4,r4⟩:=hp2;refine PostV.of ((evI_iff hM).2 ⟨max n1 n2+1,?_⟩) r4;simp only[evF,hl,if_pos ha,g1',e2,g2',t4,Option.map_some]
theorem rf_post (hM:EnvMono E){g:Operand}{g0:FuncId}{first captured:Array Value}{n:Nat}{ps:List Nat}{ca cb:Code}{aa ba:AC}{f:Fr}{h:Hp}{P:AX->Fr->Hp->Prop}(hg:f.ev g=.func (.func g0) first captured)
  (hp:PostV (evI E lim (.func g0) (first.toList++.func (.yield h.length) #[] #[]::captured.toList) (h++[.loop n f ps ca cb aa ba .ready])) fun _ h2 =>
   (∃n' f' ps' ca' cb' aa' ba',h2[h.length]?=some (.loop n' f' ps' ca' cb' aa' ba' .ready)/\P .norm f (h2.set h.length .dead))\/∃n' f' ps' ca' cb' aa' ba' x,h2[h.length]?=some (.loop n' f' ps' ca' cb' aa' ba' (.over x))/\P x f (h2.set h.length .dead)) :
  Post (evK E lim (.rf g n ps ca cb aa ba) f h) P:=by
 obtain⟨v,h2,e,hp⟩:=hp.out;obtain⟨k,hk⟩:=(evI_iff hM).1 e;rcases hp with⟨n',f',ps',ca',cb',aa',ba',e2,hP⟩ | ⟨n',f',ps',ca',cb',aa',ba',x,e2,hP⟩
 ·have:evK E lim (.rf g n ps ca cb aa ba) f h=some (.norm,f,h2.set h.length .dead):=(evK_iff hM).2 ⟨k,by simp only[evC,hg,hk,e2]⟩;rw[this]; exact hP
 ·have:evK E lim (.rf g n ps ca cb aa ba) f h=some (x,f,h2.set h.length .dead):=(evK_iff hM).2 ⟨k,by simp only[evC,hg,hk,e2]⟩;rw[this]; exact hP
theorem turn_get {h:Hp}{l n:Nat}{f:Fr}{ps:List Nat}{ca cb:Code}{aa ba:AC}{s s':RS}(hl:h[l]?=some (.loop n f ps ca cb aa ba s)):turn h l s s'=some (h.set l (.loop n f ps ca cb aa ba s')):=by
 unfold turn;rw[hl];simp
theorem chkR_false {f:Fr}{h:Hp}{u:Value}{r:Option (Value×Hp)}:chkR f h false u r=some (f,h):=rfl
attribute [push_cast] chkR_false false_implies true_implies roundP_norm roundP_ret roundP_exit
end
section
def Agr (h X:Hp):Prop:=∀(i:Nat) (k:Blk),h[i]?=some k->X[i]?=some k
theorem Agr.refl (h:Hp):Agr h h:=fun _ _ e=>e
theorem Agr.trans {h X Y:Hp}(a:Agr h X)(b:Agr X Y):Agr h Y:=fun i k e=>b i k (a i k e)
theorem Agr.app (h l:Hp):Agr h (h++l):=fun _ _ e=>get_old e
theorem Agr.le {h X:Hp}(a:Agr h X):h.length<=X.length:=by
 by_cases h0:h.length=0
 ·omega
 ·have hl:h.length-1<h.length:=by omega
  have:=(List.getElem?_eq_some_iff.1 (a (h.length-1) _ (List.getElem?_eq_getElem hl))).1;omega
theorem Agr.set {h X:Hp}(a:Agr h X){b:Nat}(hb:h.length<=b)(k:Blk):Agr h (X.set b k):=by
 intro i k' e;have:=(List.getElem?_eq_some_iff.1 e).1;rw[List.getElem?_set_ne (by omega)];exact a i k' e
theorem Agr.set_app {h X:Hp}(a:Agr h X){b:Nat}(hb:h.length<=b)(k:Blk)(l:Hp):Agr h (X.set b k++l):=(a.set hb k).trans (Agr.app _ _)
theorem Agr.out {h X:Hp}(a:Agr h X):∃l,X=h++l:=by
 refine⟨X.drop h.length,?_⟩;refine List.ext_getElem? fun i=>?_
 by_cases hi:i<h.length
 ·rw[List.getElem?_append_left hi,List.getElem?_eq_getElem hi];exact a i _ (List.getElem?_eq_getElem hi)
 ·rw[List.getElem?_append_right (by omega),List.getElem?_drop]
  congr 1
  omega
theorem SlW.agr {k n e:Nat}{h X:Hp}{a:Option Addr}{ev:Nat->List Value}(hS:SlW k h a n e ev)(A:Agr h X):SlW k X a n e ev:=by obtain⟨l,rfl⟩:=A.out; exact hS.grow
theorem SlK.agr {k n e:Nat}{h X:Hp}{a:Option Addr}{ev:Nat->List Value}(hS:SlK k h a n e ev)(A:Agr h X):SlK k X a n e ev:=by obtain⟨l,rfl⟩:=A.out; exact hS.grow
theorem zin.agr {Z:Option ZN}{h X:Hp}(H:zin Z h)(A:Agr h X):zin Z X:=by obtain⟨l,rfl⟩:=A.out; exact H.grow
end
section
def OffsOk (E:Env):Prop:=∀(lim:Nat) (h:Hp) (Z:Option ZN),zin Z h->PostV (evI E lim (.func 62) [zv Z] h) fun v h'=>∃b xs,Agr h h'/\v=.slice (some ⟨b,0,none⟩) xs.length 1/\h.length<=b/\h'[b]?=some (.cells true (ints xs))/\1<=xs.length/\xs.length<=1000/\∀j,j<xs.length->-89999<=xs.getD j 0/\xs.getD j 0<=93599
variable {E:Env}(hE:EnvT E){lim:Nat}{h:Hp}
include hE
section
open Tb
def rb88:AC:=.block 1 (.seq (.reg [o 25 (.ld (t 6)),o 26 (.mov (t 10)),o 27 (.bin .mul (t 26) (i 1000000)),o 28 (.bin .sub (t 25) (t 27)),o 11 (.mov (t 28))]) (.seq (.reg [o 29 (.mov (t 11)),o 30 (.bin .geq (t 29) (i (-10000000000000000))),o 31 (.mov (t 30)),g 32 31 true (.mov (t 11)),g 33 31 true (.bin .leq (t 32) (i 100000000000000000)),o 34 (.pick (t 31) (t 33) ff),o 35 (.mov (t 34)),g 36 35 true (.ld (t 2)),g 37 35 true (.mov (t 11)),g 40 35 true (.mov (t 10)),g 38 35 true (.call (.func 82) [(t 37),(i 1000000)]),.chk 36 (some (35,true)) (.ld (t 2)),g 39 35 true (.call (.func 81) [(t 36),(t 38)]),g 41 35 true (.bin .eql (t 39) (t 40)),o 42 (.pick (t 35) (t 41) ff)]) (.cond (t 42) (.reg [o 43 (.ld (t 8)),o 44 (.mov (t 11)),o 45 (.bsl 1 [z] [(0,1,(t 44))] 1),o 46 (.app 1 8 (t 43) (t 45)),n (.st 1 (t 8) (t 46))]) (.skip))))
end
def InstP (W:Hp)(a8:Nat)(v3:Value)(y:AX)(f3:Fr)(X:Hp):Prop:=y=.norm/\(X=W\/∃c' ys',X[a8]?=some (.cells true [.slice (some ⟨c',0,none⟩) ys'.length 1])/\X[c']?=some (.cells true (ints ys'))/\W.length<=c'/\(∀j,j<ys'.length->-10000000000000000<=ys'.getD j 0/\ys'.getD j 0<=100000000000000000) /\
   (v3=.slice none 0 0->ys'.length=1)/\(∀c ys,v3=.slice (some ⟨c,0,none⟩) ys 1->ys'.length=ys+1)/\W.length<=X.length/\∀i,i<W.length->i≠a8->(∀c n,v3=.slice (some ⟨c,0,none⟩) n 1->i≠c)->X[i]?=W[i]?)
theorem body88 {Z:Option ZN}{p:Option Addr}(hp:zv Z=.pointer p){W:Hp}(hz:zin Z W){f:Fr}{a2 a6 a8:Nat}{mv x:Int}{v3:Value}(f2:f.rd 2=.pointer (some ⟨a2,0,none⟩))(f6:f.rd 6=.pointer (some ⟨a6,0,none⟩))(f8:f.rd 8=.pointer (some ⟨a8,0,none⟩))(f10:f.rd 10=.int .i64 x)
  (e2:W[a2]?=some (.cells true [.pointer p]))(e6:W[a6]?=some (.cells true [.int .i64 mv]))(e8:W[a8]?=some (.cells true [v3]))(hlim:lim<=a8)
  (hv:v3=.slice none 0 0\/∃c ys,v3=.slice (some ⟨c,0,none⟩) ys.length 1/\W[c]?=some (.cells true (ints ys))/\c≠a8/\ys.length<=1000/\∀j,j<ys.length->-10000000000000000<=ys.getD j 0/\ys.getD j 0<=100000000000000000) :
  Post (evK E lim rb88 f W) (InstP W a8 v3):=by
 have h81:=fun sec=>c81 hE (lim:=lim) hz sec;rw[hp] at h81;have hl8:=lt_of_get e8;obtain⟨t,ht⟩:∃t,IntKind.i64.wrap (mv-IntKind.i64.wrap (x*1000000))=t:=⟨_,rfl⟩;cases hr1:decide (t>=-10000000000000000) with
 | false =>
  simp only[push_cast,rb88,f2,f6,f8,f10,e2,e6,e8,ht,hr1,simprocAttr];exact⟨rfl,Or.inl rfl⟩
 | true =>
 cases hr:decide (t<=100000000000000000) with
 | false =>
  simp only[push_cast,rb88,f2,f6,f8,f10,e2,e6,e8,ht,hr1,hr,simprocAttr];exact⟨rfl,Or.inl rfl⟩
 | true =>
  have hr':-10000000000000000<=t/\t<=100000000000000000:=⟨by simpa using hr1,by simpa using hr⟩;obtain⟨v,h',e81,rfl,oo,rfl,oo1,oo2⟩:=(h81 (t/1000000)).out;cases hq:(oo==x) with
  | false =>
   simp only[push_cast,rb88,f2,f6,f8,f10,e2,e6,e8,ht,hr1,hr,c82 hE t 1000000 (by omega) (by omega) (by omega) (by omega),e81,hq,simprocAttr];exact⟨rfl,Or.inl rfl⟩
  | true =>
   rcases hv with rfl | ⟨c,ys,rfl,hc,hne,hyl,hyb⟩
   ·have hgl:∀l,(h'++l)[a8]?=some (.cells true [.slice none 0 0]):=fun l=>get_old e8;have hsl:∀l k,(h'++l).set a8 k=h'.set a8 k++l:=fun l k=>set_old hl8;have hor:∀q:Prop,(lim<=a8\/q)=True:=fun q=>by simp[hlim]
    simp only[push_cast,rb88,f2,f6,f8,f10,e2,e6,e8,ht,hr1,hr,c82 hE t 1000000 (by omega) (by omega) (by omega) (by omega),e81,hq,srcOf,Nat.mul_one,hgl,hsl,hor,simprocAttr];refine⟨rfl,Or.inr ⟨h'.length+1,[t],?_,?_,by omega,?_,by simp,?_,by simp,?_⟩⟩
    ·exact get_old (set_get hl8)
    ·rw[get_appC (by simp)]; rfl
    ·intro j hj;have:j=0:=by simpa using hj
     subst this;simp; omega
    ·intro c ys hh; cases hh
    ·intro i hi hi8 _;rw[get_lt (by simpa using hi),set_ne (Ne.symm hi8)]
   ·have hlc:=lt_of_get hc;have hgl:∀l,(h'++l)[c]?=some (.cells true (ints ys)):=fun l=>get_old hc;have hsl:∀l k,(h'++l).set c k=h'.set c k++l:=fun l k=>set_old hlc;have hg8:∀l k,(h'.set c k++l)[a8]?=some (.cells true [.slice (some ⟨c,0,none⟩) ys.length 1]):=fun l k=>get_old (by rw[set_ne hne]; exact e8);have hs8:∀l k k2,(h'.set c k++l).set a8 k2=(h'.set c k).set a8 k2++l:=fun l k k2=>set_old (by simpa using hl8);have hor:∀q:Prop,(lim<=a8\/q)=True:=fun q=>by simp[hlim]
    have c1:((ys.length+1)*8<=140737488355328)=True:=by simp; omega
    have c2:(ys.length=(ints ys).length)=True:=by simp[ints_len]
    simp only[push_cast,rb88,f2,f6,f8,f10,e2,e6,e8,ht,hr1,hr,c82 hE t 1000000 (by omega) (by omega) (by omega) (by omega),e81,hq,srcOf,Nat.mul_one,hgl,hsl,hg8,hs8,hor,c1,c2,simprocAttr];refine⟨rfl,Or.inr ⟨h'.length+1,ys++[t],?_,?_,by omega,?_,?_,?_,by simp,?_⟩⟩
    ·rw[get_old (set_get (by simpa using hl8))]; simp
    ·rw[get_appC (by simp)]; simp[ints]
    ·intro j hj
     by_cases hj2:j<ys.length
     ·have:=hyb j hj2;simpa[List.getD_eq_getElem?_getD,List.getElem?_append_left hj2] using this
     ·have:j=ys.length:=by simp at hj; omega
      subst this;simp; omega
    ·intro hh; cases hh
    ·intro c0 y0 hh; cases hh; simp
    ·intro i hi hi8 hic;have hcc:=hic c _ rfl;rw[get_lt (by simpa using hi),set_ne (Ne.symm hi8),set_ne (Ne.symm hcc)]
end
section
open Tb
def ikeys (es:List (Value×Value)):List Int:=es.map fun p=>match p.1 with
 | .int _ n=>n
 | _=>0
def SrtOk (E:Env):Prop:=∀(lim:Nat) (h:Hp) (b mb:Nat) (es:List (Value×Value)),h[b]?=some (.cells true [.map (some mb)])->h[mb]?=some (.map es)->(∀p∈es,∃n v,p=(.int .i64 n,.int .i64 v)/\-9223372036854775808<=n/\n<=9223372036854775807)->1<=es.length->es.length<=1000 ->
 ∃xs,evI E lim (.func 113) [.func (.func 173) #[] #[.pointer (some ⟨b,0,none⟩)]] h=some (.slice (some ⟨h.length,0,none⟩) xs.length 1,h++[.cells true (ints xs)])/\xs.Perm (ikeys es)
variable {E:Env}(hE:EnvT E){lim:Nat}{h:Hp}
include hE
theorem c114 {mb:Nat}:evI E lim (.func 114) [.map (some mb)] h=some (.func (.func 173) #[] #[.pointer (some ⟨h.length,0,none⟩)],h++[.cells true [.map (some mb)]]):=by
 rw[hE.fn T114]; simp only[push_cast,ac114,simprocAttr]
def Zint (es:List (Value×Value)):Prop:=∀p∈es,∃n v,p=(Value.int .i64 n,Value.int .i64 v)/\-89999<=n/\n<=93599
omit hE in
theorem mf_int {x:Int}:∀ {es:List (Value×Value)} {i:Nat},Zint es->(∃j v,mfind false (.int .i64 x) es i=some (some (j,v))/\i<=j/\j<i+es.length)\/mfind false (.int .i64 x) es i=some none
 | [],i,_=>.inr (by simp[mfind,keyIs])
 | (k,v)::es,i,H=>by
  obtain⟨n,v',e,h1,h2⟩:=H _ (List.mem_cons_self ..);cases e
  by_cases hx:x=n
  ·exact .inl ⟨i,.int .i64 v',by simp[mfind,keyEq,hx],Nat.le_refl _,by simp⟩
  ·have hx':(x==n)=false:=by simpa using hx
   rcases mf_int (x:=x) (es:=es) (i:=i+1) (fun p hp=>H p (List.mem_cons_of_mem _ hp)) with⟨j,v,e,e1,e2⟩ | e
   ·exact .inl ⟨j,v,by simp[mfind,keyEq,hx',e],by omega,by simp; omega⟩
   ·exact .inr (by simp[mfind,keyEq,hx',e])
def putZ (x:Int)(es:List (Value×Value)):Option (Nat×Value)->List (Value×Value)
 | some (i,_)=>es.set i (.int .i64 x,.int .i64 1)
 | none=>es++[(.int .i64 x,.int .i64 1)]
omit hE in
theorem put_ok {x:Int} {es:List (Value×Value)} (H:Zint es) (h1:-89999<=x) (h2:x<=93599):∃r,mfind false (.int .i64 x) es 0=some r/\Zint (putZ x es r)/\(putZ x es r).length<=es.length+1/\1<=(putZ x es r).length:=by
 rcases mf_int (x:=x) (i:=0) H with⟨j,v,e,e1,e2⟩ | e
 ·refine⟨_,e,fun p hp=>?_,by simp[putZ],by simp[putZ]; omega⟩;rcases List.mem_or_eq_of_mem_set hp with hp | rfl
  ·exact H p hp
  ·exact⟨x,1,rfl,h1,h2⟩
 ·refine⟨_,e,fun p hp=>?_,by simp[putZ],by simp[putZ]⟩;simp only[putZ,List.mem_append,List.mem_singleton] at hp;rcases hp with hp | rfl
  ·exact H p hp
  ·exact⟨x,1,rfl,h1,h2⟩
omit hE in
theorem zi_get {es:List (Value×Value)} (Zs:Zint es) {xs:List Int} (hp:xs.Perm (ikeys es)) {j:Nat} (hj:j<xs.length):-89999<=xs.getD j 0/\xs.getD j 0<=93599:=by
 have e:xs.getD j 0=xs[j]:=by simp[List.getD_eq_getElem?_getD,hj]
 rw[e];have hm:xs[j]∈ikeys es:=hp.mem_iff.1 (List.getElem_mem hj);simp only[ikeys,List.mem_map] at hm;obtain⟨p,hp,e⟩:=hm;obtain⟨n,v,rfl,a,b⟩:=Zs p hp;simp only at e;omega
theorem loop62 {Z:ZN}(H:Z.In h){f:Fr}(f0:f.rd 0=.pointer (some ⟨Z.b,0,none⟩))(f3:f.rd 3=.map (some h.length))(f15:f.rd 15=.slice Z.z.ta Z.z.tn Z.z.te)(f16:f.rd 16=.int .i64 Z.z.tn)(f17:f.rd 17=.int .i64 0){P:AX->Fr->Hp->Prop}
  (hP:∀(f':Fr) es l,f'.rd 0=.pointer (some ⟨Z.b,0,none⟩)->f'.rd 3=.map (some h.length)->Zint es->es.length<=255->1<=es.length->P (.exit 0) f' (h++(.map es::l))):Post (evK E lim (.loop lp62_0) f (h++[.map []])) P:=by
 refine loop_post hE.mono (fun k f X=>∃(i:Nat) (es:List (Value×Value)) (l:Hp),i<=Z.z.tn/\Z.z.tn-i=k/\f.rd 0=.pointer (some ⟨Z.b,0,none⟩)/\f.rd 3=.map (some h.length)/\f.rd 15=.slice Z.z.ta Z.z.tn Z.z.te/\f.rd 16=.int .i64 Z.z.tn/\f.rd 17=.int .i64 i /\
  X=h++(.map es::l)/\Zint es/\es.length<=i/\(1<=i->1<=es.length)) ?_ _ _ _ ⟨0,[],[],Nat.zero_le _,rfl,f0,f3,f15,f16,f17,rfl,(fun p hp=>by cases hp),Nat.le_refl _,fun h=>by omega⟩
 clear f0 f3 f15 f16 f17;rintro k f X ⟨i,es,l,hi,hk,f0,f3,f15,f16,f17,rfl,Zs,s1,s2⟩;have htu:=H.tu
 by_cases hin:i<Z.z.tn
 ·obtain⟨b,o,own,cs,h0,h1,h2,h3,h4⟩:=H.zin.t (Nat.lt_of_le_of_lt (Nat.zero_le i) hin);have h5:=h4 i hin;have h6:=mul_le_in (k:=3) hin;have h7:o+i*3+3<=cs.length:=by omega
  have e1:((i:Int)<Z.z.tn)=True:=by simp[hin]
  have e2:(0<=(i:Int))=True:=by simp
  have e3:=wn1 (i:=i);obtain⟨o1,o2⟩:=H.off i hin;obtain⟨r,er,Zr,r1,r2⟩:=put_ok Zs o1 o2;rcases r with _ | ⟨j,w⟩<;>simp only[putZ] at Zr r1 r2<;>simp +contextual only[push_cast,lp62_0,f0,f3,f15,f16,f17,e1,e2,e3,h0,h1,get_old h2,h5,h7,er,get_cons,len_cons,simprocAttr]<;>exact⟨Z.z.tn-(i+1),by omega,i+1,_,_,hin,rfl,rfl,rfl,Zr,by omega,fun _=>r2⟩
 ·have:i=Z.z.tn:=by omega
  subst this;have ht:=H.tn;simp +contextual only[push_cast,lp62_0,f0,f3,f15,f16,f17,Int.lt_irrefl,simprocAttr];exact hP _ es l (by simp[f0]) (by simp[f3]) Zs (by omega) (s2 ht)
set_option linter.unusedSectionVars false in
theorem keys62 (hS:SrtOk E) {X:Hp} {mb:Nat} {es:List (Value×Value)} (hm:X[mb]?=some (.map es)) (Zs:Zint es) (n1:1<=es.length) (n2:es.length<=1000):∃xs,evI E lim (.func 113) [.func (.func 173) #[] #[.pointer (some ⟨X.length,0,none⟩)]] (X++[.cells true [.map (some mb)]])=some (.slice (some ⟨X.length+1,0,none⟩) xs.length 1,X++[.cells true [.map (some mb)],.cells true (ints xs)])/\1<=xs.length/\xs.length<=1000/\∀j,j<xs.length->-89999<=xs.getD j 0/\xs.getD j 0<=93599:=by
 obtain⟨xs,e,hp⟩:=hS lim (X++[.cells true [.map (some mb)]]) X.length mb es get_app0 (get_old hm) (fun p hp=>by
  obtain⟨n,v,rfl,a,b⟩:=Zs p hp;exact⟨n,v,rfl,by omega,by omega⟩) n1 n2
 have hl:xs.length=es.length:=by rw[hp.length_eq]; simp[ikeys]
 refine⟨xs,?_,by omega,by omega,fun j hj=>zi_get Zs hp hj⟩;rw[e];simp
theorem c62 (hS:SrtOk E):OffsOk E:=by
 intro lim h Z HZ;cases Z with
 | none =>
  rw[hE.fn T62]; simp +contextual only[push_cast,ac62,zv,simprocAttr]
  exact⟨h.length,[0],Agr.app _ _,rfl,Nat.le_refl _,get_app0,by simp,by simp,fun j hj=>by
   have:j=0:=by simpa using hj
   subst this;simp⟩
 | some Z =>
  have H:=HZ Z rfl;obtain⟨own,hz⟩:=H.blk;cases hR:Z.R with
  | none =>
   have hrp:Z.rp=.pointer none:=by simp[ZN.rp,hR]
   rw[hrp] at hz;rw[hE.fn T62]; simp +contextual only[push_cast,ac62,zv,get_old hz,simprocAttr];refine loop62 hE H (by simp) (by simp) (by simp) (by simp) (by simp) ?_;intro f es l q0 q3 Zs n1 n2;obtain⟨xs,e113,x1,x2,x3⟩:=keys62 hE hS (lim:=lim) (X:=h++(.map es::l)) (mb:=h.length) (by rw[get_app0]; rfl) Zs n2 (by omega);simp only[len_app,len_cons,app_app,List.cons_append] at e113;simp +contextual only[push_cast,q0,q3,get_old hz,c114 hE,e113,simprocAttr];exact⟨_,xs,Agr.app _ _,rfl,by omega,by rw[Nat.add_assoc,get_app,get_cons,get_app]; rfl,x1,x2,x3⟩
  | some R =>
   obtain⟨⟨ro,hr1⟩,hr2,hr3⟩:=H.rule R hR;have hrp:Z.rp=.pointer (some ⟨Z.r,0,none⟩):=by simp[ZN.rp,hR]
   rw[hrp] at hz;have RR:=H.right R hR;simp only[RD.cs] at hr1;rw[hE.fn T62]; simp +contextual only[push_cast,ac62,zv,get_old hz,simprocAttr];refine loop62 hE H (by simp) (by simp) (by simp) (by simp) (by simp) ?_;intro f es l q0 q3 Zs n1 n2;obtain⟨r,er,Zr,r1,r2⟩:=put_ok Zs RR.off.1 (Int.le_trans RR.off.2 (by omega));cases hd:(R.dst.toList==ByteArray.toList ⟨#[]⟩) with
   | true =>
    obtain⟨xs,e113,x1,x2,x3⟩:=keys62 hE hS (lim:=lim) (X:=h++(.map (putZ R.off es r)::l)) (mb:=h.length) (by rw[get_app0]; rfl) Zr r2 (by omega);rcases r with _ | ⟨j,w⟩<;>simp only[putZ,len_app,len_cons,app_app,List.cons_append] at e113<;>simp +contextual only[push_cast,q0,q3,get_old hz,get_old hr1,er,hd,c114 hE,e113,get_cons,len_cons,simprocAttr]<;>exact⟨_,xs,Agr.app _ _,rfl,by omega,by rw[Nat.add_assoc,get_app,get_cons,get_app]; rfl,x1,x2,x3⟩
   | false =>
    obtain⟨d1,d2,-,-⟩:=RR.dof hd;obtain⟨p,ep,Zp,p1,p2⟩:=put_ok Zr d1 (Int.le_trans d2 (by omega));obtain⟨xs,e113,x1,x2,x3⟩:=keys62 hE hS (lim:=lim) (X:=h++(.map (putZ R.dof (putZ R.off es r) p)::l)) (mb:=h.length) (by rw[get_app0]; rfl) Zp p2 (by omega);rcases r with _ | ⟨j,w⟩<;>rcases p with _ | ⟨j2,w2⟩<;>simp only[putZ,len_app,len_cons,app_app,List.cons_append] at e113 ep<;>simp +contextual only[push_cast,q0,q3,get_old hz,get_old hr1,er,ep,hd,c114 hE,e113,get_cons,len_cons,simprocAttr]<;>exact⟨_,xs,Agr.app _ _,rfl,by omega,by rw[Nat.add_assoc,get_app,get_cons,get_app]; rfl,x1,x2,x3⟩
end
section
variable {E:Env}(hE:EnvT E){lim:Nat}{h:Hp}
include hE
theorem c150 {a:Option Addr}{n e:Nat}:evI E lim (.func 150) [.slice a n e] h=some (.func (.func 212) #[] #[.pointer (some ⟨h.length,0,none⟩)],h++[.cells true [.slice a n e]]):=by
 rw[hE.fn T150]; simp +contextual only[push_cast,ac150,simprocAttr]
theorem c212 {l bx sb:Nat}{xs:List Int}{I:Nat->Hp->Prop}{Q:Hp->Prop}(hl:xs.length<1000000)(h0:I xs.length h)
  (hb:∀k X,I k X->∃own,X[bx]?=some (.cells own [.slice (some ⟨sb,0,none⟩) xs.length 1]))(hs:∀k X,I k X->X[sb]?=some (.cells true (ints xs)))
  (step:∀k X,k<xs.length->I (k+1) X->PostV (evI E lim (.yield l) [.int .i64 (k:Nat),.int .i64 (xs.getD k 0)] X) fun v X'=>(v=.bool true/\I k X')\/(v=.bool false/\Q X')) :
  PostV (evI E lim (.func 212) [.func (.yield l) #[] #[],.pointer (some ⟨bx,0,none⟩)] h) fun v X'=>v=undef/\(I 0 X'\/Q X'):=by
 obtain⟨own,hb0⟩:=hb _ _ h0;rw[hE.fn T212]; simp +contextual only[push_cast,ac212,hb0,simprocAttr];refine loop_post hE.mono (fun k f X=>k<=xs.length/\f.rd 0=.func (.yield l) #[] #[]/\f.rd 1=.pointer (some ⟨bx,0,none⟩)/\f.rd 3=.int .i64 ((k:Int)-1)/\I k X) ?_ xs.length _ _ ?_
 ·rintro k f X ⟨hk,f0,f1,f3,hI⟩;cases k with
  | zero =>
   simp only[push_cast,lp212_0,f0,f1,f3,Int.ofNat_zero,simprocAttr];exact⟨rfl,Or.inl hI⟩
  | succ k =>
   obtain⟨own,hbX⟩:=hb _ _ hI;have hsX:=hs _ _ hI;have e0:((k+1:Nat):Int)-1=(k:Int):=by omega
   rw[e0] at f3;have e1:((k:Int)>=0)=True:=by simp
   have e2:((k:Int)<xs.length)=True:=by simp; omega
   have e3:(0<=(k:Int))=True:=by simp
   have e4:=ints_get (xs:=xs) (i:=k) (by omega);have e5:=w64 (x:=(k:Int)-1);simp only[push_cast,lp212_0,f0,f1,f3,e1,e2,e3,hbX,hsX,e4,Nat.mul_one,simprocAttr];refine(step k X (by omega) hI).mono ?_;rintro v X' (⟨rfl,hI'⟩ | ⟨rfl,hQ⟩)
   ·simp only[push_cast,f0,f1,f3,e5,simprocAttr];exact⟨k,by omega,by omega,rfl,hI'⟩
   ·simp only[push_cast,simprocAttr];exact⟨rfl,Or.inr hQ⟩
 ·have e5:=w64 (x:=(xs.length:Int)-1);exact⟨Nat.le_refl _,rfl,rfl,by rw[e5]; rfl,h0⟩
theorem c88 (hO:OffsOk E)(hlim:lim<=h.length){Z:Option ZN}(H:zin Z h)(y m d hh mi s us:Int):PostV (evI E lim (.func 88) [zv Z,.agg #[.int .i64 y,.int .i64 m,.int .i64 d,.int .i64 hh,.int .i64 mi,.int .i64 s,.int .i64 us]] h) fun v h' =>
  Agr h h'/\∃w e,v=.tuple #[w,.int .i64 e]/\(w=.slice none 0 0\/∃b xs,w=.slice (some ⟨b,0,none⟩) xs.length 1/\h'[b]?=some (.cells true (ints xs))/\xs.length<=10000/\∀j,j<xs.length->-10000000000000000<=xs.getD j 0/\xs.getD j 0<=100000000000000000):=by
 obtain⟨p,hp⟩:∃p,zv Z=.pointer p:=by cases Z<;>exact⟨_,rfl⟩
 have h62:=fun lim X (A:Agr h X)=>hO lim X Z (H.agr A);rw[hp] at h62 ⊢;cases hm:microOk y m d hh mi s us with
 | false =>
  rw[hE.fn T88]; simp +contextual only[push_cast,ac88,c84 hE,hm,simprocAttr];exact⟨Agr.app _ _,_,_,rfl,Or.inl rfl⟩
 | true =>
  rw[hE.fn T88]; simp +contextual only[push_cast,ac88,c84 hE,hm,simprocAttr];obtain⟨mv,hmv⟩:∃mv,microF y m d hh mi s us=mv:=⟨_,rfl⟩;rw[hmv];refine(h62 _ _ (Agr.app _ _)).mono ?_;rintro v X ⟨b,xs,A,rfl,hbl,hbx,hx1,hx2,hxo⟩;simp only[push_cast,c150 hE,simprocAttr];refine rf_post hE.mono (g0:=212) rfl ?_;have A0:Agr h X:=(Agr.app _ _).trans A;have a2:X[h.length]?=some (.cells true [.pointer p]):=A _ _ (by rw[get_app0]; rfl);have a6:X[h.length+2]?=some (.cells true [.int .i64 mv]):=A _ _ (by rw[get_app]; rfl);have a8:X[h.length+3]?=some (.cells true [.slice none 0 0]):=A _ _ (by rw[get_app]; rfl);have hXl:=A.le;simp only[List.length_append,List.length_cons,List.length_nil] at hXl hbl;have hbX:b<X.length:=(List.getElem?_eq_some_iff.1 hbx).1;simp only[List.length_append,List.length_cons,List.length_nil,List.append_assoc,List.cons_append,List.nil_append,Nat.zero_add,Nat.reduceAdd];generalize hFr:([Value.pointer p,_,_,_,_,_,_,_,_,_,_,_,_,_,_,_,_,_,_,_,_,_,_]:List Value)=F;have F2:Fr.rd F 2=.pointer (some ⟨h.length,0,none⟩):=by rw[<- hFr]; rfl
  have F6:Fr.rd F 6=.pointer (some ⟨h.length+2,0,none⟩):=by rw[<- hFr]; rfl
  have F8:Fr.rd F 8=.pointer (some ⟨h.length+3,0,none⟩):=by rw[<- hFr]; rfl
  clear hFr;generalize hB:AC.block 1 _=body;generalize hA:AC.reg [AI.op (some 10) none (AOp.mov (Operand.tmp 24))]=aa
  refine(c212 hE (l:=X.length+1) (bx:=X.length) (sb:=b) (xs:=xs) (Q:=fun _=>False) (I:=fun k Y=>∃v3,Agr h Y/\Y[h.length]?=some (.cells true [.pointer p])/\Y[h.length+2]?=some (.cells true [.int .i64 mv])/\Y[h.length+3]?=some (.cells true [v3]) /\
   Y[X.length]?=some (.cells true [.slice (some ⟨b,0,none⟩) xs.length 1])/\Y[X.length+1]?=some (.loop 48 F [23,24] rc88.1 rc88.2 aa body .ready)/\Y[b]?=some (.cells true (ints xs)) /\
   (v3=.slice none 0 0\/∃c ys,v3=.slice (some ⟨c,0,none⟩) ys.length 1/\Y[c]?=some (.cells true (ints ys))/\X.length+2<=c/\ys.length+k<=1000/\∀j,j<ys.length->-10000000000000000<=ys.getD j 0/\ys.getD j 0<=100000000000000000)) (by omega) ?_ ?_ ?_ ?_).mono ?_
  ·exact⟨_,A0.trans (Agr.app _ _),get_old a2,get_old a6,get_old a8,by rw[get_app0]; rfl,by rw[get_app]; rfl,get_old hbx,Or.inl rfl⟩
  ·rintro k Y ⟨v3,q1,q2,q3,q4,q5,q6,q7,q8⟩;exact⟨true,q5⟩
  ·rintro k Y ⟨v3,q1,q2,q3,q4,q5,q6,q7,q8⟩;exact q7
  ·rintro k Y hk ⟨v3,q1,q2,q3,q4,q5,q6,q7,q8⟩;have hlb:=(List.getElem?_eq_some_iff.1 q6).1;refine yield_post hE.mono q6 rfl ?_
   have haa:Post (evK E lim aa (putL F [23,24] [.int .i64 (k:Nat),.int .i64 (xs.getD k 0)]) Y) fun x f1 h1=>x=.norm/\f1=((Fr.st F 23 (.int .i64 (k:Nat))).st 24 (.int .i64 (xs.getD k 0))).st 10 (.int .i64 (xs.getD k 0))/\h1=Y:=by
    rw[<- hA];simp only[push_cast,putL,simprocAttr]
   refine haa.mono ?_;rintro x f1 h1 ⟨hx1,hf1,hh1⟩;rw[hx1,hf1,hh1];refine⟨rfl,_,turn_get q6,?_⟩;have e2:=q2; have e6:=q3; have e8:=q4;rw[<- set_ne (x:=.loop 48 F [23,24] rc88.1 rc88.2 aa body .busy) (by omega:X.length+1≠h.length)] at e2;rw[<- set_ne (x:=.loop 48 F [23,24] rc88.1 rc88.2 aa body .busy) (by omega:X.length+1≠h.length+2)] at e6;rw[<- set_ne (x:=.loop 48 F [23,24] rc88.1 rc88.2 aa body .busy) (by omega:X.length+1≠h.length+3)] at e8;have A2:Agr h (Y.set (X.length+1) (.loop 48 F [23,24] rc88.1 rc88.2 aa body .busy)):=q1.set (by omega) _;obtain⟨o1,o2⟩:=hxo k hk
   have r8:v3=.slice none 0 0\/∃c ys,v3=.slice (some ⟨c,0,none⟩) ys.length 1/\(Y.set (X.length+1) (.loop 48 F [23,24] rc88.1 rc88.2 aa body .busy))[c]?=some (.cells true (ints ys))/\c≠h.length+3/\ys.length<=1000/\∀j,j<ys.length->-10000000000000000<=ys.getD j 0/\ys.getD j 0<=100000000000000000:=by
    rcases q8 with q8 | ⟨c,ys,g1,g2,g3,g4,g5⟩
    ·exact Or.inl q8
    ·exact Or.inr ⟨c,ys,g1,by rw[set_ne (by omega)]; exact g2,by omega,by omega,g5⟩
   have hbody:=body88 hE (lim:=lim) hp (H.agr A2) (f:=((Fr.st F 23 (.int .i64 (k:Nat))).st 24 (.int .i64 (xs.getD k 0))).st 10 (.int .i64 (xs.getD k 0))) (x:=xs.getD k 0) (mv:=mv) (v3:=v3)
    (by simp only[rd_st]; exact F2) (by simp only[rd_st]; exact F6) (by simp only[rd_st]; exact F8) (by simp only[rd_st]; rfl) e2 e6 e8 (by omega) r8
   rw[show rb88=body from hB] at hbody;refine hbody.mono ?_;rintro y f3 W ⟨rfl,hW | ⟨c',ys',w8,wc,wl,wb,w1,w2,wlen,wo⟩⟩
   ·subst hW;refine⟨_,turn_get (set_get hlb),Or.inl ⟨rfl,v3,?_⟩⟩;rw[List.set_set,set_same q6];refine⟨q1,q2,q3,q4,q5,q6,q7,?_⟩;rcases q8 with q8 | ⟨c,ys,g1,g2,g3,g4,g5⟩
    ·exact Or.inl q8
    ·exact Or.inr ⟨c,ys,g1,g2,g3,by omega,g5⟩
   ·have hYl:(Y.set (X.length+1) (.loop 48 F [23,24] rc88.1 rc88.2 aa body .busy)).length=Y.length:=by simp
    rw[hYl] at wl wlen wo
    have keepW:∀i,i<X.length->i≠h.length+3->W[i]?=Y[i]?:=by
     intro i hi h3
     rw[wo i (by omega) h3 (fun c n hc=>by
      rcases q8 with q8 | ⟨c2,ys,g1,g2,g3,g4,g5⟩
      ·rw[q8] at hc; cases hc
      ·rw[g1] at hc; cases hc; omega),set_ne (by omega)]
    have hWlb:W[X.length+1]?=some (.loop 48 F [23,24] rc88.1 rc88.2 aa body .busy):=by
     rw[wo _ (by omega) (by omega) (fun c n hc=>by
      rcases q8 with q8 | ⟨c2,ys,g1,g2,g3,g4,g5⟩
      ·rw[q8] at hc; cases hc
      ·rw[g1] at hc; cases hc; omega)]
     exact set_get hlb
    have hWX:W[X.length]?=some (.cells true [.slice (some ⟨b,0,none⟩) xs.length 1]):=by
     rw[wo _ (by omega) (by omega) (fun c n hc=>by
      rcases q8 with q8 | ⟨c2,ys,g1,g2,g3,g4,g5⟩
      ·rw[q8] at hc; cases hc
      ·rw[g1] at hc; cases hc; omega),set_ne (by omega)]
     exact q5
    refine⟨_,turn_get hWlb,Or.inl ⟨rfl,_,?_,?_,?_,?_,?_,?_,?_,Or.inr ⟨c',ys',rfl,?_,?_,?_,wb⟩⟩⟩
    ·intro i k' hi;have hil:=(List.getElem?_eq_some_iff.1 hi).1;rw[set_ne (by omega),keepW i (by omega) (by omega)];exact q1 i k' hi
    ·rw[set_ne (by omega),keepW _ (by omega) (by omega)]; exact q2
    ·rw[set_ne (by omega),keepW _ (by omega) (by omega)]; exact q3
    ·rw[set_ne (by omega)]; exact w8
    ·rw[set_ne (by omega)]; exact hWX
    ·exact set_get (by omega)
    ·rw[set_ne (by omega),keepW b (by omega) (by omega)]; exact q7
    ·rw[set_ne (by omega)]; exact wc
    ·omega
    ·rcases q8 with q8 | ⟨c2,ys,g1,g2,g3,g4,g5⟩
     ·have:=w1 q8; omega
     ·have:=w2 _ _ g1; omega
  ·rintro v Y ⟨rfl,⟨v3,q1,q2,q3,q4,q5,q6,q7,q8⟩ | hf⟩
   ·refine Or.inl ⟨_,_,_,_,_,_,_,q6,?_⟩;have e8:=q4;rw[<- set_ne (x:=.dead) (by omega:X.length+1≠h.length+3)] at e8;simp only[push_cast,F8,e8,simprocAttr];refine⟨q1.set (by omega) _,_,_,rfl,?_⟩;rcases q8 with q8 | ⟨c,ys,g1,g2,g3,g4,g5⟩
    ·exact Or.inl q8
    ·exact Or.inr ⟨c,ys,g1,by rw[set_ne (by omega)]; exact g2,by omega,g5⟩
   ·exact hf.elim
end
section
theorem zv_ptr (Z:Option ZN):∃p,zv Z=.pointer p:=by cases Z<;>exact⟨_,rfl⟩
variable {E:Env}(hE:EnvT E){lim:Nat}{h:Hp}
include hE
theorem c64 {Z:Option ZN}(H:zin Z h)(u:Int)(h1:-9223372036854775808<=u)(h2:u<=9223372036854775807):PostV (evI E lim (.func 64) [zv Z,.int .i64 u] h) fun v h'=>h'=h/\∃o,v=.int .i64 o/\-93599000000<=o/\o<=93599000000:=by
 rw[hE.fn T64]; simp +contextual only[push_cast,ac64,c117 hE u 1000000 h1 h2 (by omega) (by omega),simprocAttr];refine(c81 hE H _).mono ?_;rintro v h' ⟨rfl,o,rfl,o1,o2⟩;have w:=w64 (x:=o*1000000);simp +contextual only[push_cast,w,simprocAttr];exact⟨_,rfl,by omega,by omega⟩
theorem c43 (hO:OffsOk E){Z:Option ZN}(H:zin Z h)(u:Int)(h1:-9223372036854775808<=u)(h2:u<=9223372036854775807):PostV (evI E lim (.func 43) [zv Z,.int .i64 u] h) fun v h'=>h'=h/\∃o,v=.int .i64 o/\-9223372036854775808<=o/\o<=9223372036854775807:=by
 rw[hE.fn T43]; simp only[push_cast,ac43,simprocAttr];refine(c41 hE H u h1 h2).mono ?_;rintro v h' ⟨rfl,y,m,d,hh,mi,s,us,e,rfl⟩;simp only[push_cast,simprocAttr];refine(c88 hE hO (by simp) H.grow y m d hh mi s us).mono ?_;rintro v X ⟨A,w,e2,rfl,rfl | ⟨b,xs,rfl,hb,hl,hx⟩⟩
 ·obtain⟨l,rfl⟩:=((Agr.app _ _).trans A).out;have g0:(((0:Nat):Int)==0)=true:=rfl;simp only[push_cast,g0,simprocAttr];exact⟨_,rfl,h1,h2⟩
 ·obtain⟨l,rfl⟩:=((Agr.app _ _).trans A).out
  by_cases h0:xs.length=0
  ·have g0:((xs.length:Int)==0)=true:=by simp[h0]
   simp only[push_cast,g0,simprocAttr];exact⟨_,rfl,h1,h2⟩
  ·have g0:((xs.length:Int)==0)=false:=by simpa using h0
   have g1:((0:Int)<xs.length)=True:=by simp; omega
   have g2:=ints_get (xs:=xs) (i:=0) (by omega);have:=hx 0 (by omega);simp only[push_cast,g0,g1,hb,g2,Nat.zero_mul,Int.le_refl,simprocAttr];exact⟨_,rfl,by omega,by omega⟩
theorem c65 (hS:SortOk E)(hN:SortNil E){Z:Option ZN}(H:zin Z h)(u:Int)(h1:-9223372036854775808<=u)(h2:u<=9223372036854775807):PostV (evI E lim (.func 65) [zv Z,.int .i64 u] h) fun v h'=>h'=h/\∃e,v=.int .i64 e/\-100000000000000000<=e/\e<=7258118400000000/\(u<7258118400000000->u<e):=by
 obtain⟨p,hp⟩:=zv_ptr Z;have h118:=fun lim X (A:Agr h X) fr to=>c118 hE hS hN (lim:=lim) (fr:=fr) (to:=to) (H.agr A);rw[hp] at h118 ⊢;rw[hE.fn T65]; simp +contextual only[push_cast,ac65,c117 hE u 1000000 h1 h2 (by omega) (by omega),simprocAttr];refine loop_post hE.mono (fun k f X=>∃sec:Int,u/1000000<=sec/\sec<=10000000000000/\(7258118400-sec).toNat=k/\f.rd 0=.pointer p/\f.rd 5=.int .i64 sec/\Agr h X) ?_ (7258118400-u/1000000).toNat _ _ ?_
 ·rintro k f X ⟨sec,s1,s2,hk,f0,f5,A⟩
  by_cases hs:sec<7258118400
  ·have w1:=w64 (x:=sec+31622400);simp only[push_cast,lp65_0,f0,f5,hs,w1,simprocAttr];refine(h118 _ X A sec (sec+31622400)).mono ?_;rintro v h' ⟨l,rfl,rfl | ⟨m,n,xs,rfl,hm,hn,hx⟩⟩
   ·simp only[push_cast,f5,w1,Int.ofNat_zero,gt_iff_lt,Int.lt_irrefl,simprocAttr];exact⟨(7258118400-(sec+31622400)).toNat,by omega,sec+31622400,by omega,by omega,rfl,f0,rfl,A.trans (Agr.app _ _)⟩
   ·by_cases h0:n=0
    ·have g0:decide ((n:Int)>0)=false:=by simp; omega
     simp only[push_cast,f5,w1,g0,simprocAttr];exact⟨(7258118400-(sec+31622400)).toNat,by omega,sec+31622400,by omega,by omega,rfl,f0,rfl,A.trans (Agr.app _ _)⟩
    ·have g0:decide ((n:Int)>0)=true:=by simp; omega
     have g1:((0:Int)<n)=True:=by simp; omega
     have g2:=ints_get (xs:=xs) (i:=0) (by omega);obtain⟨x1,x2⟩:=hx 0 (by omega);have w2:=w64 (x:=xs.getD 0 0*1000000);obtain⟨l2,rfl⟩:=A.out;have gl:((h++l2)++l)[(h++l2).length+m]?=some (.cells true (ints xs)):=by rw[get_app]; exact hm
     simp only[app_app,len_app] at gl;simp only[push_cast,f5,w1,g0,g1,hm,g2,w2,Nat.zero_mul,Int.le_refl,Nat.add_assoc,simprocAttr];exact⟨_,rfl,by omega,by omega,by omega⟩
  ·obtain⟨l2,rfl⟩:=A.out;simp only[push_cast,lp65_0,f0,f5,hs,simprocAttr];exact⟨_,rfl,by omega,by omega,by omega⟩
 ·exact⟨u/1000000,Int.le_refl _,by omega,rfl,rfl,rfl,Agr.refl h⟩
end
section
structure PD where
 a:Option Addr
 n:Nat
 e:Nat
 f:Nat->Int
 t:Nat->Int
 s:Nat->Int
def PD.val (p:PD):Value:=.slice p.a p.n p.e
def PD.In (p:PD)(h:Hp):Prop:=SlW 3 h p.a p.n p.e (fun j=>[.int .i64 (p.f j),.int .i64 (p.t j),.int .i64 (p.s j)])/\p.n<1000000
theorem PD.In.agr {p:PD}{h X:Hp}(H:p.In h)(A:Agr h X):p.In X:=⟨H.1.agr A,H.2⟩
def PD.Ok (p:PD)(l m:Int):Prop:=∀j,j<p.n->l<=p.f j/\p.f j<=p.t j/\p.t j<=m/\0<=p.s j/\p.s j<=10000000000000
theorem step_up {a n s:Int}(hs:0<s)(hn:a<n):n<=a+(n-a+s-1)/s*s/\a+(n-a+s-1)/s*s<=n+s-1:=by
 have h1:=Int.ediv_mul_le (n-a+s-1) (by omega:s≠0);have h2:=Int.lt_ediv_add_one_mul_self (n-a+s-1) hs;rw[Int.add_mul,Int.one_mul] at h2;omega
variable {E:Env}(hE:EnvT E){lim:Nat}{h:Hp}
include hE
theorem c175 {p:PD}(H:p.In h)(hok:p.Ok 0 100000000){n most:Int}(n1:-1000000000000<=n)(n2:n<=1000000000000):PostV (evI E lim (.func 175) [p.val,.int .i64 n,.int .i64 most] h) fun v h'=>h'=h/\∃b ok,v=.tuple #[.int .i64 b,.bool ok]/\(ok=true->n<=b/\b<=most):=by
 unfold PD.val
 by_cases h0:p.n=0
 ·have g0:((p.n:Int)==0)=true:=by simp[h0]
  rw[hE.fn T175]; simp only[push_cast,ac175,g0,simprocAttr];exact⟨_,_,rfl,fun h=>⟨Int.le_refl _,by simpa using h⟩⟩
 ·have g0:((p.n:Int)==0)=false:=by simpa using h0
  have hpn:=H.2;obtain⟨b,o,own,cs,k0,k1,k2,k3,k4⟩:=H.1.K (by omega);rw[k0,k1];rw[hE.fn T175]; simp only[push_cast,ac175,g0,simprocAttr];refine loop_post hE.mono (fun k f X=>∃(i:Nat) (best:Int) (found:Bool),i<=p.n/\p.n-i=k/\f.rd 1=.int .i64 n/\f.rd 2=.int .i64 most/\f.rd 8=.int .i64 best/\f.rd 9=.bool found/\f.rd 20=.slice (some ⟨b,o,none⟩) p.n 3/\f.rd 21=.int .i64 p.n/\f.rd 22=.int .i64 i/\Agr h X/\(found=true->n<=best)) ?_ p.n _ _ ?_
  ·rintro k f X ⟨i,best,found,hi,hk,f1,f2,f8,f9,f20,f21,f22,A,hf⟩
   by_cases hin:i<p.n
   ·have e1:((i:Int)<p.n)=True:=by simp[hin]
    have e2:(0<=(i:Int))=True:=by simp
    have e3:=wn1 (i:=i);have k5:=k4 i hin;have k6:=mul_le_in (k:=3) hin;have k7:o+i*3+3<=cs.length:=by omega
    have kX:=A _ _ k2;obtain⟨p1,p2,p3,p4,p5⟩:=hok i hin;have fin:∀(at_:Int) (g:Fr),n<=at_->g.rd 1=.int .i64 n->True:=fun _ _ _ _=>trivial
    by_cases hge:p.f i>=n
    ·have q1:decide (p.f i>=n)=true:=by simp[hge]
     cases hc:(decide (p.f i<=p.t i)&&(!found||decide (p.f i<best))) with
     | true =>
      simp +contextual only[push_cast,lp175_0,f1,f2,f8,f9,f20,f21,f22,e1,e2,e3,kX,k5,k7,q1,hc,simprocAttr];exact⟨p.n-(i+1),by omega,i+1,_,_,hin,rfl,rfl,rfl,rfl,A.trans (Agr.app _ _),fun _=>hge⟩
     | false =>
      simp +contextual only[push_cast,lp175_0,f1,f2,f8,f9,f20,f21,f22,e1,e2,e3,kX,k5,k7,q1,hc,simprocAttr];exact⟨p.n-(i+1),by omega,i+1,_,_,hin,rfl,rfl,rfl,rfl,A.trans (Agr.app _ _),hf⟩
    ·have q1:decide (p.f i>=n)=false:=by simp[hge]
     by_cases hs0:p.s i=0
     ·have q2:(p.s i==0)=true:=by simp[hs0]
      simp +contextual only[push_cast,lp175_0,f1,f2,f8,f9,f20,f21,f22,e1,e2,e3,kX,k5,k7,q1,q2,simprocAttr];exact⟨p.n-(i+1),by omega,i+1,_,_,hin,rfl,rfl,rfl,rfl,A.trans (Agr.app _ _),hf⟩
     ·have q2:(p.s i==0)=false:=by simpa using hs0
      have q3:(p.s i=0)=False:=by simpa using hs0
      obtain⟨u1,u2⟩:=step_up (a:=p.f i) (n:=n) (s:=p.s i) (by omega) (by omega);have w1:=w64 (x:=n-p.f i);have w2:=w64 (x:=n-p.f i+p.s i);have w3:=w64 (x:=n-p.f i+p.s i-1);have w4:(n-p.f i+p.s i-1).tdiv (p.s i)=(n-p.f i+p.s i-1)/p.s i:=Int.tdiv_eq_ediv_of_nonneg (by omega);have v1:=Int.ediv_le_self (p.s i) (by omega:0<=n-p.f i+p.s i-1);have v2:=Int.ediv_nonneg (by omega:0<=n-p.f i+p.s i-1) p4;have w5:=w64 (x:=(n-p.f i+p.s i-1)/p.s i);have w6:=w64 (x:=(n-p.f i+p.s i-1)/p.s i*p.s i);have w7:=w64 (x:=p.f i+(n-p.f i+p.s i-1)/p.s i*p.s i);cases hc:(decide (p.f i+(n-p.f i+p.s i-1)/p.s i*p.s i<=p.t i)&&(!found||decide (p.f i+(n-p.f i+p.s i-1)/p.s i*p.s i<best))) with
      | true =>
       simp +contextual only[push_cast,lp175_0,f1,f2,f8,f9,f20,f21,f22,e1,e2,e3,kX,k5,k7,q1,q2,q3,w1,w2,w3,w4,w5,w6,w7,hc,simprocAttr];exact⟨p.n-(i+1),by omega,i+1,_,_,hin,rfl,rfl,rfl,rfl,A.trans (Agr.app _ _),fun _=>u1⟩
      | false =>
       simp +contextual only[push_cast,lp175_0,f1,f2,f8,f9,f20,f21,f22,e1,e2,e3,kX,k5,k7,q1,q2,q3,w1,w2,w3,w4,w5,w6,w7,hc,simprocAttr];exact⟨p.n-(i+1),by omega,i+1,_,_,hin,rfl,rfl,rfl,rfl,A.trans (Agr.app _ _),hf⟩
   ·have:i=p.n:=by omega
    subst this;obtain⟨l2,rfl⟩:=A.out;simp +contextual only[push_cast,lp175_0,f1,f2,f8,f9,f20,f21,f22,Int.lt_irrefl,simprocAttr];refine⟨_,_,rfl,fun h=>?_⟩;simp only[Bool.and_eq_true,decide_eq_true_eq] at h;exact⟨hf h.1,h.2⟩
  ·exact⟨0,_,_,by omega,rfl,rfl,rfl,rfl,rfl,rfl,rfl,rfl,Agr.refl h,fun h=>by cases h⟩
end
section
structure TE where
 bf:Nat
 br:Nat
 bm:Nat
 bo:Nat
 bg:Nat
 f0:Int
 f1:Int
 f2:Int
 p0:PD
 p1:PD
 p2:PD
def TE.cap (T:TE):List Value:=[.pointer (some ⟨T.bf,0,none⟩),.pointer (some ⟨T.br,0,none⟩),.pointer (some ⟨T.bm,0,none⟩),.pointer (some ⟨T.bo,0,none⟩),.pointer (some ⟨T.bg,0,none⟩)]
structure TE.In (T:TE)(h:Hp)(o0 o1 o2:Int):Prop where
 bf:h[T.bf]?=some (.cells true [.int .i64 T.f0,.int .i64 T.f1,.int .i64 T.f2])
 br:h[T.br]?=some (.cells true [T.p0.val,T.p1.val,T.p2.val])
 bm:h[T.bm]?=some (.cells true [.int .i64 23,.int .i64 59,.int .i64 59999999])
 bo:h[T.bo]?=some (.cells true [.int .i64 o0,.int .i64 o1,.int .i64 o2])
 bg:h[T.bg]?=some (.cells true [.func (.func 177) #[] T.cap.toArray])
 p0:∀x,T.p0.In (h.set T.bo x)/\T.p0.Ok 0 100000000
 p1:∀x,T.p1.In (h.set T.bo x)/\T.p1.Ok 0 100000000
 p2:∀x,T.p2.In (h.set T.bo x)/\T.p2.Ok 0 100000000
 ne:T.bo≠T.bf/\T.bo≠T.br/\T.bo≠T.bm/\T.bo≠T.bg
 fr:0<=T.f0/\T.f0<=1000000000/\0<=T.f1/\T.f1<=1000000000/\0<=T.f2/\T.f2<=1000000000
def oB (o0 o1 o2:Int):Blk:=.cells true [.int .i64 o0,.int .i64 o1,.int .i64 o2]
theorem TE.In.put {T:TE}{h:Hp}{o0 o1 o2:Int}(H:T.In h o0 o1 o2)(q0 q1 q2:Int):T.In (h.set T.bo (oB q0 q1 q2)) q0 q1 q2:=by
 obtain⟨h1,h2,h3,h4,h5,h6,h7,h8,⟨n1,n2,n3,n4⟩,h10⟩:=H
 exact⟨by rw[set_ne n1]; exact h1,by rw[set_ne n2]; exact h2,by rw[set_ne n3]; exact h3,set_get (lt_of_get h4),by rw[set_ne n4]; exact h5,
  fun x=>by rw[List.set_set]; exact h6 x,fun x=>by rw[List.set_set]; exact h7 x,fun x=>by rw[List.set_set]; exact h8 x,⟨n1,n2,n3,n4⟩,h10⟩
def ge2 (T:TE)(t:Bool)(o2:Int):Prop:=t=true->T.f2<=o2
def ge1 (T:TE)(t:Bool)(o1 o2:Int):Prop:=t=true->T.f1<o1\/(T.f1=o1/\T.f2<=o2)
def ge0 (T:TE)(t:Bool)(o0 o1 o2:Int):Prop:=t=true->T.f0<o0\/(T.f0=o0/\(T.f1<o1\/(T.f1=o1/\T.f2<=o2)))
variable {E:Env}(hE:EnvT E){lim:Nat}{h:Hp}
include hE
theorem c177_3 {T:TE}{t:Bool}:evI E lim (.func 177) (.int .i64 3::.bool t::T.cap) h=some (.bool true,h):=by
 rw[hE.fn T177]; simp only[push_cast,ac177,TE.cap,simprocAttr]
theorem c177_2 {T:TE}{o0 o1 o2:Int}(H:T.In h o0 o1 o2)(t:Bool):PostV (evI E lim (.func 177) (.int .i64 2::.bool t::T.cap) h) fun v h'=>∃r q2,v=.bool r/\h'=h.set T.bo (oB o0 o1 q2)/\(r=true->ge2 T t q2/\0<=q2/\q2<=59999999):=by
 have hlt:=lt_of_get H.bo;obtain⟨z1,z2,z3,z4,z5,z6⟩:=H.fr
 have rounds:∀(F:Fr) (low:Int) (P:AX->Fr->Hp->Prop),F.rd 0=.int .i64 2->F.rd 1=.bool t->F.rd 2=.pointer (some ⟨T.bf,0,none⟩)->F.rd 3=.pointer (some ⟨T.br,0,none⟩)->F.rd 4=.pointer (some ⟨T.bm,0,none⟩)->F.rd 5=.pointer (some ⟨T.bo,0,none⟩)->F.rd 6=.pointer (some ⟨T.bg,0,none⟩)->F.rd 10=.int .i64 low ->
   0<=low->low<=100000000000->(t=true->T.f2<=low) ->
   (∀f' r q2,f'.rd 9=.bool r->(r=true->ge2 T t q2/\0<=q2/\q2<=59999999)->P .ret f' (h.set T.bo (oB o0 o1 q2)))->Post (evK E h.length (.loop lp177_0) F h) P:=by
  intro F low P g0 g1 g2 g3 g4 g5 g6 g10 l1 l2 hl hP
  refine loop_post hE.mono (fun k f X=>∃(low:Int) (q2:Int),f.rd 0=.int .i64 2/\f.rd 1=.bool t/\f.rd 2=.pointer (some ⟨T.bf,0,none⟩)/\f.rd 3=.pointer (some ⟨T.br,0,none⟩)/\f.rd 4=.pointer (some ⟨T.bm,0,none⟩)/\f.rd 5=.pointer (some ⟨T.bo,0,none⟩)/\f.rd 6=.pointer (some ⟨T.bg,0,none⟩)/\f.rd 10=.int .i64 low /\
   0<=low/\low<=100000000000/\(100000000001-low).toNat=k/\(t=true->T.f2<=low)/\X=h.set T.bo (oB o0 o1 q2)) ?_ _ _ _ ⟨low,o2,g0,g1,g2,g3,g4,g5,g6,g10,l1,l2,rfl,hl,(set_same H.bo).symm⟩
  clear g0 g1 g2 g3 g4 g5 g6 g10 l1 l2 hl low F;rintro k f X ⟨low,q2,g0,g1,g2,g3,g4,g5,g6,g10,l1,l2,hk,hl,rfl⟩;have HX:=H.put o0 o1 q2;obtain⟨b1,b2,b3,b4,b5,b6,b7,b8,⟨n1,n2,n3,n4⟩,-⟩:=HX;have hp:=(H.p2 (oB o0 o1 q2));simp only[push_cast,lp177_0,g0,g1,g2,g3,g4,g5,g6,g10,b1,b2,b3,Nat.mul_one,Nat.zero_mul,Nat.add_zero,simprocAttr];refine(c175 hE hp.1 hp.2 (by omega) (by omega)).mono ?_;rintro v h' ⟨rfl,n,ok,rfl,hn⟩;cases ok with
  | false =>
   simp only[push_cast,simprocAttr];refine hP _ false q2 ?_ (fun hf=>by cases hf);simp only[push_cast,simprocAttr]
  | true =>
   obtain⟨m1,m2⟩:=hn rfl;have w3:IntKind.i64.wrap 3=3:=wrap64 (by omega) (by omega);have w4:=w64 (x:=n+1);cases t with
   | false =>
    simp only[push_cast,g0,g1,g2,g3,g4,g5,g6,H.bf,H.bg,oB,set_get hlt,set_ne n1,set_ne n4,Nat.mul_one,Nat.zero_mul,w3,c177_3 hE,simprocAttr];refine hP _ true n ?_ (fun _=>⟨fun ht=>(by cases ht),by omega⟩);simp only[push_cast,simprocAttr]
   | true =>
    have hl':=hl rfl;cases hq:(n==T.f2) with
    | false =>
     simp only[push_cast,g0,g1,g2,g3,g4,g5,g6,H.bf,H.bg,oB,set_get hlt,set_ne n1,set_ne n4,Nat.mul_one,Nat.zero_mul,w3,hq,c177_3 hE,simprocAttr];refine hP _ true n ?_ (fun _=>⟨fun ht=>(by omega),by omega⟩);simp only[push_cast,simprocAttr]
    | true =>
     have heq:n=T.f2:=by simpa using hq
     simp only[push_cast,g0,g1,g2,g3,g4,g5,g6,H.bf,H.bg,oB,set_get hlt,set_ne n1,set_ne n4,Nat.mul_one,Nat.zero_mul,w3,hq,c177_3 hE,simprocAttr];refine hP _ true n ?_ (fun _=>⟨fun ht=>(by omega),by omega⟩);simp only[push_cast,simprocAttr]
 cases t with
 | false =>
  rw[hE.fn T177]; simp only[push_cast,ac177,TE.cap,simprocAttr];refine rounds _ 0 _ rfl rfl rfl rfl rfl rfl rfl rfl (by omega) (by omega) (fun ht=>by cases ht) ?_;intro f' r q2 h9 hr;simp only[push_cast,h9,take_set,simprocAttr];exact⟨r,q2,rfl,rfl,hr⟩
 | true =>
  rw[hE.fn T177]; simp only[push_cast,ac177,TE.cap,H.bf,Nat.mul_one,Nat.zero_mul,Nat.add_zero,simprocAttr];refine rounds _ T.f2 _ rfl rfl rfl rfl rfl rfl rfl rfl (by omega) (by omega) (fun ht=>Int.le_refl _) ?_;intro f' r q2 h9 hr;simp only[push_cast,h9,take_set,simprocAttr];exact⟨r,q2,rfl,rfl,hr⟩
theorem c177_1 {T:TE}{o0 o1 o2:Int}(H:T.In h o0 o1 o2)(t:Bool):PostV (evI E lim (.func 177) (.int .i64 1::.bool t::T.cap) h) fun v h'=>∃r q1 q2,v=.bool r/\h'=h.set T.bo (oB o0 q1 q2)/\(r=true->ge1 T t q1 q2/\0<=q1/\q1<=59/\0<=q2/\q2<=59999999):=by
 have hlt:=lt_of_get H.bo;obtain⟨z1,z2,z3,z4,z5,z6⟩:=H.fr
 have rounds:∀(F:Fr) (low:Int) (P:AX->Fr->Hp->Prop),F.rd 0=.int .i64 1->F.rd 1=.bool t->F.rd 2=.pointer (some ⟨T.bf,0,none⟩)->F.rd 3=.pointer (some ⟨T.br,0,none⟩)->F.rd 4=.pointer (some ⟨T.bm,0,none⟩)->F.rd 5=.pointer (some ⟨T.bo,0,none⟩)->F.rd 6=.pointer (some ⟨T.bg,0,none⟩)->F.rd 10=.int .i64 low ->
   0<=low->low<=100000000000->(t=true->T.f1<=low) ->
   (∀f' r q1 q2,f'.rd 9=.bool r->(r=true->ge1 T t q1 q2/\0<=q1/\q1<=59/\0<=q2/\q2<=59999999)->P .ret f' (h.set T.bo (oB o0 q1 q2)))->Post (evK E h.length (.loop lp177_0) F h) P:=by
  intro F low P g0 g1 g2 g3 g4 g5 g6 g10 l1 l2 hl hP
  refine loop_post hE.mono (fun k f X=>∃(low:Int) (q1 q2:Int),f.rd 0=.int .i64 1/\f.rd 1=.bool t/\f.rd 2=.pointer (some ⟨T.bf,0,none⟩)/\f.rd 3=.pointer (some ⟨T.br,0,none⟩)/\f.rd 4=.pointer (some ⟨T.bm,0,none⟩)/\f.rd 5=.pointer (some ⟨T.bo,0,none⟩)/\f.rd 6=.pointer (some ⟨T.bg,0,none⟩)/\f.rd 10=.int .i64 low /\
   0<=low/\low<=100000000000/\(100000000001-low).toNat=k/\(t=true->T.f1<=low)/\X=h.set T.bo (oB o0 q1 q2)) ?_ _ _ _ ⟨low,o1,o2,g0,g1,g2,g3,g4,g5,g6,g10,l1,l2,rfl,hl,(set_same H.bo).symm⟩
  clear g0 g1 g2 g3 g4 g5 g6 g10 l1 l2 hl low F;rintro k f X ⟨low,q1,q2,g0,g1,g2,g3,g4,g5,g6,g10,l1,l2,hk,hl,rfl⟩;have HX:=H.put o0 q1 q2;obtain⟨b1,b2,b3,b4,b5,b6,b7,b8,⟨n1,n2,n3,n4⟩,-⟩:=HX;have hp:=(H.p1 (oB o0 q1 q2));simp only[push_cast,lp177_0,g0,g1,g2,g3,g4,g5,g6,g10,b1,b2,b3,Nat.mul_one,Nat.zero_mul,Nat.add_zero,simprocAttr];refine(c175 hE hp.1 hp.2 (by omega) (by omega)).mono ?_;rintro v h' ⟨rfl,n,ok,rfl,hn⟩;cases ok with
  | false =>
   simp only[push_cast,simprocAttr];refine hP _ false q1 q2 ?_ (fun hf=>by cases hf);simp only[push_cast,simprocAttr]
  | true =>
   obtain⟨m1,m2⟩:=hn rfl;have w3:IntKind.i64.wrap 2=2:=wrap64 (by omega) (by omega);have w4:=w64 (x:=n+1);cases t with
   | false =>
    simp only[push_cast,g0,g1,g2,g3,g4,g5,g6,H.bf,H.bg,oB,set_get hlt,set_ne n1,set_ne n4,Nat.mul_one,Nat.zero_mul,w3,simprocAttr];refine(c177_2 hE (H.put o0 n q2) _).mono ?_;rintro v h' ⟨r,q2',rfl,rfl,hr⟩;cases r with
    | true =>
     obtain⟨hr1,hr2⟩:=hr rfl;simp only[push_cast,simprocAttr];refine hP _ true n q2' ?_ (fun _=>⟨fun ht=>(by cases ht),by omega⟩);simp only[push_cast,simprocAttr]
    | false =>
     simp only[push_cast,g0,g1,g2,g3,g4,g5,g6,w4,simprocAttr];exact⟨(100000000001-(n+1)).toNat,by omega,n+1,n,q2',rfl,by omega,by omega,rfl,rfl⟩
   | true =>
    have hl':=hl rfl;cases hq:(n==T.f1) with
    | false =>
     simp only[push_cast,g0,g1,g2,g3,g4,g5,g6,H.bf,H.bg,oB,set_get hlt,set_ne n1,set_ne n4,Nat.mul_one,Nat.zero_mul,w3,hq,simprocAttr];refine(c177_2 hE (H.put o0 n q2) _).mono ?_;rintro v h' ⟨r,q2',rfl,rfl,hr⟩;cases r with
     | true =>
      obtain⟨hr1,hr2⟩:=hr rfl;simp only[push_cast,simprocAttr];refine hP _ true n q2' ?_ (fun _=>⟨fun ht=>(by(have hne:n≠T.f1:=by simpa using hq); omega),by omega⟩);simp only[push_cast,simprocAttr]
     | false =>
      simp only[push_cast,g0,g1,g2,g3,g4,g5,g6,w4,simprocAttr];exact⟨(100000000001-(n+1)).toNat,by omega,n+1,n,q2',rfl,by omega,by omega,rfl,by omega,rfl⟩
    | true =>
     have heq:n=T.f1:=by simpa using hq
     simp only[push_cast,g0,g1,g2,g3,g4,g5,g6,H.bf,H.bg,oB,set_get hlt,set_ne n1,set_ne n4,Nat.mul_one,Nat.zero_mul,w3,hq,simprocAttr];refine(c177_2 hE (H.put o0 n q2) _).mono ?_;rintro v h' ⟨r,q2',rfl,rfl,hr⟩;cases r with
     | true =>
      obtain⟨hr1,hr2⟩:=hr rfl;simp only[push_cast,simprocAttr];refine hP _ true n q2' ?_ (fun _=>⟨fun ht=>(by(have h3:=hr1 rfl); omega),by omega⟩);simp only[push_cast,simprocAttr]
     | false =>
      simp only[push_cast,g0,g1,g2,g3,g4,g5,g6,w4,simprocAttr];exact⟨(100000000001-(n+1)).toNat,by omega,n+1,n,q2',rfl,by omega,by omega,rfl,by omega,rfl⟩
 cases t with
 | false =>
  rw[hE.fn T177]; simp only[push_cast,ac177,TE.cap,simprocAttr];refine rounds _ 0 _ rfl rfl rfl rfl rfl rfl rfl rfl (by omega) (by omega) (fun ht=>by cases ht) ?_;intro f' r q1 q2 h9 hr;simp only[push_cast,h9,take_set,simprocAttr];exact⟨r,q1,q2,rfl,rfl,hr⟩
 | true =>
  rw[hE.fn T177]; simp only[push_cast,ac177,TE.cap,H.bf,Nat.mul_one,Nat.zero_mul,Nat.add_zero,simprocAttr];refine rounds _ T.f1 _ rfl rfl rfl rfl rfl rfl rfl rfl (by omega) (by omega) (fun ht=>Int.le_refl _) ?_;intro f' r q1 q2 h9 hr;simp only[push_cast,h9,take_set,simprocAttr];exact⟨r,q1,q2,rfl,rfl,hr⟩
theorem c177_0 {T:TE}{o0 o1 o2:Int}(H:T.In h o0 o1 o2)(t:Bool):PostV (evI E lim (.func 177) (.int .i64 0::.bool t::T.cap) h) fun v h'=>∃r q0 q1 q2,v=.bool r/\h'=h.set T.bo (oB q0 q1 q2)/\(r=true->ge0 T t q0 q1 q2/\0<=q0/\q0<=23/\0<=q1/\q1<=59/\0<=q2/\q2<=59999999):=by
 have hlt:=lt_of_get H.bo;obtain⟨z1,z2,z3,z4,z5,z6⟩:=H.fr
 have rounds:∀(F:Fr) (low:Int) (P:AX->Fr->Hp->Prop),F.rd 0=.int .i64 0->F.rd 1=.bool t->F.rd 2=.pointer (some ⟨T.bf,0,none⟩)->F.rd 3=.pointer (some ⟨T.br,0,none⟩)->F.rd 4=.pointer (some ⟨T.bm,0,none⟩)->F.rd 5=.pointer (some ⟨T.bo,0,none⟩)->F.rd 6=.pointer (some ⟨T.bg,0,none⟩)->F.rd 10=.int .i64 low ->
   0<=low->low<=100000000000->(t=true->T.f0<=low) ->
   (∀f' r q0 q1 q2,f'.rd 9=.bool r->(r=true->ge0 T t q0 q1 q2/\0<=q0/\q0<=23/\0<=q1/\q1<=59/\0<=q2/\q2<=59999999)->P .ret f' (h.set T.bo (oB q0 q1 q2)))->Post (evK E h.length (.loop lp177_0) F h) P:=by
  intro F low P g0 g1 g2 g3 g4 g5 g6 g10 l1 l2 hl hP
  refine loop_post hE.mono (fun k f X=>∃(low:Int) (q0 q1 q2:Int),f.rd 0=.int .i64 0/\f.rd 1=.bool t/\f.rd 2=.pointer (some ⟨T.bf,0,none⟩)/\f.rd 3=.pointer (some ⟨T.br,0,none⟩)/\f.rd 4=.pointer (some ⟨T.bm,0,none⟩)/\f.rd 5=.pointer (some ⟨T.bo,0,none⟩)/\f.rd 6=.pointer (some ⟨T.bg,0,none⟩)/\f.rd 10=.int .i64 low /\
   0<=low/\low<=100000000000/\(100000000001-low).toNat=k/\(t=true->T.f0<=low)/\X=h.set T.bo (oB q0 q1 q2)) ?_ _ _ _ ⟨low,o0,o1,o2,g0,g1,g2,g3,g4,g5,g6,g10,l1,l2,rfl,hl,(set_same H.bo).symm⟩
  clear g0 g1 g2 g3 g4 g5 g6 g10 l1 l2 hl low F;rintro k f X ⟨low,q0,q1,q2,g0,g1,g2,g3,g4,g5,g6,g10,l1,l2,hk,hl,rfl⟩;have HX:=H.put q0 q1 q2;obtain⟨b1,b2,b3,b4,b5,b6,b7,b8,⟨n1,n2,n3,n4⟩,-⟩:=HX;have hp:=(H.p0 (oB q0 q1 q2));simp only[push_cast,lp177_0,g0,g1,g2,g3,g4,g5,g6,g10,b1,b2,b3,Nat.mul_one,Nat.zero_mul,Nat.add_zero,simprocAttr];refine(c175 hE hp.1 hp.2 (by omega) (by omega)).mono ?_;rintro v h' ⟨rfl,n,ok,rfl,hn⟩;cases ok with
  | false =>
   simp only[push_cast,simprocAttr];refine hP _ false q0 q1 q2 ?_ (fun hf=>by cases hf);simp only[push_cast,simprocAttr]
  | true =>
   obtain⟨m1,m2⟩:=hn rfl;have w3:IntKind.i64.wrap 1=1:=wrap64 (by omega) (by omega);have w4:=w64 (x:=n+1);cases t with
   | false =>
    simp only[push_cast,g0,g1,g2,g3,g4,g5,g6,H.bf,H.bg,oB,set_get hlt,set_ne n1,set_ne n4,Nat.mul_one,Nat.zero_mul,w3,simprocAttr];refine(c177_1 hE (H.put n q1 q2) _).mono ?_;rintro v h' ⟨r,q1',q2',rfl,rfl,hr⟩;cases r with
    | true =>
     obtain⟨hr1,hr2⟩:=hr rfl;simp only[push_cast,simprocAttr];refine hP _ true n q1' q2' ?_ (fun _=>⟨fun ht=>(by cases ht),by omega⟩);simp only[push_cast,simprocAttr]
    | false =>
     simp only[push_cast,g0,g1,g2,g3,g4,g5,g6,w4,simprocAttr];exact⟨(100000000001-(n+1)).toNat,by omega,n+1,n,q1',q2',rfl,by omega,by omega,rfl,rfl⟩
   | true =>
    have hl':=hl rfl;cases hq:(n==T.f0) with
    | false =>
     simp only[push_cast,g0,g1,g2,g3,g4,g5,g6,H.bf,H.bg,oB,set_get hlt,set_ne n1,set_ne n4,Nat.mul_one,Nat.zero_mul,w3,hq,simprocAttr];refine(c177_1 hE (H.put n q1 q2) _).mono ?_;rintro v h' ⟨r,q1',q2',rfl,rfl,hr⟩;cases r with
     | true =>
      obtain⟨hr1,hr2⟩:=hr rfl;simp only[push_cast,simprocAttr];refine hP _ true n q1' q2' ?_ (fun _=>⟨fun ht=>(by(have hne:n≠T.f0:=by simpa using hq); omega),by omega⟩);simp only[push_cast,simprocAttr]
     | false =>
      simp only[push_cast,g0,g1,g2,g3,g4,g5,g6,w4,simprocAttr];exact⟨(100000000001-(n+1)).toNat,by omega,n+1,n,q1',q2',rfl,by omega,by omega,rfl,by omega,rfl⟩
    | true =>
     have heq:n=T.f0:=by simpa using hq
     simp only[push_cast,g0,g1,g2,g3,g4,g5,g6,H.bf,H.bg,oB,set_get hlt,set_ne n1,set_ne n4,Nat.mul_one,Nat.zero_mul,w3,hq,simprocAttr];refine(c177_1 hE (H.put n q1 q2) _).mono ?_;rintro v h' ⟨r,q1',q2',rfl,rfl,hr⟩;cases r with
     | true =>
      obtain⟨hr1,hr2⟩:=hr rfl;simp only[push_cast,simprocAttr];refine hP _ true n q1' q2' ?_ (fun _=>⟨fun ht=>(by(have h3:=hr1 rfl); omega),by omega⟩);simp only[push_cast,simprocAttr]
     | false =>
      simp only[push_cast,g0,g1,g2,g3,g4,g5,g6,w4,simprocAttr];exact⟨(100000000001-(n+1)).toNat,by omega,n+1,n,q1',q2',rfl,by omega,by omega,rfl,by omega,rfl⟩
 cases t with
 | false =>
  rw[hE.fn T177]; simp only[push_cast,ac177,TE.cap,simprocAttr];refine rounds _ 0 _ rfl rfl rfl rfl rfl rfl rfl rfl (by omega) (by omega) (fun ht=>by cases ht) ?_;intro f' r q0 q1 q2 h9 hr;simp only[push_cast,h9,take_set,simprocAttr];exact⟨r,q0,q1,q2,rfl,rfl,hr⟩
 | true =>
  rw[hE.fn T177]; simp only[push_cast,ac177,TE.cap,H.bf,Nat.mul_one,Nat.zero_mul,Nat.add_zero,simprocAttr];refine rounds _ T.f0 _ rfl rfl rfl rfl rfl rfl rfl rfl (by omega) (by omega) (fun ht=>Int.le_refl _) ?_;intro f' r q0 q1 q2 h9 hr;simp only[push_cast,h9,take_set,simprocAttr];exact⟨r,q0,q1,q2,rfl,rfl,hr⟩
structure SD where
 days:Int
 yr:PD
 mo:PD
 dy:PD
 en:Bool
 hr:PD
 mi:PD
 se:PD
 utc:Bool
def SD.cs (s:SD):List Value:=[.int .u8 s.days,s.yr.val,s.mo.val,s.dy.val,.bool s.en,s.hr.val,s.mi.val,s.se.val,.bool s.utc]
structure SD.In (s:SD)(h:Hp):Prop where
 yr:s.yr.In h
 mo:s.mo.In h
 dy:s.dy.In h
 hr:s.hr.In h
 mi:s.mi.In h
 se:s.se.In h
omit hE in
theorem SD.In.agr {s:SD} {h X:Hp} (H:s.In h) (A:Agr h X):s.In X:=⟨H.yr.agr A,H.mo.agr A,H.dy.agr A,H.hr.agr A,H.mi.agr A,H.se.agr A⟩
structure SD.Ok (s:SD):Prop where
 yr:s.yr.Ok 1970 2199
 mo:s.mo.Ok 1 12
 dy:s.dy.Ok 1 31
 hr:s.hr.Ok 0 23
 mi:s.mi.Ok 0 59
 se:s.se.Ok 0 59999999
omit hE in
theorem PD.Ok.wide {p:PD} {l m:Int} (H:p.Ok l m) (h1:0<=l) (h2:m<=100000000):p.Ok 0 100000000:=fun j hj=>by
 have:=H j hj;omega
theorem c116 {s:SD}(H:s.In h)(hok:s.Ok){f0 f1 f2:Int}(hf:0<=f0/\f0<=1000000000/\0<=f1/\f1<=1000000000/\0<=f2/\f2<=1000000000):PostV (evI E lim (.func 116) [.agg #[.int .u8 s.days,s.yr.val,s.mo.val,s.dy.val,.bool s.en,s.hr.val,s.mi.val,s.se.val,.bool s.utc],.agg #[.int .i64 f0,.int .i64 f1,.int .i64 f2]] h) fun v h'=>h'=h/\∃q0 q1 q2 r,v=.tuple #[.agg #[.int .i64 q0,.int .i64 q1,.int .i64 q2],.bool r] /\
  (r=true->(f0<q0\/(f0=q0/\(f1<q1\/(f1=q1/\f2<=q2))))/\0<=q0/\q0<=23/\0<=q1/\q1<=59/\0<=q2/\q2<=59999999):=by
 rw[hE.fn T116]; simp only[push_cast,ac116,PD.val,le_app,simprocAttr]
 have hT:∀B0 B2,(⟨h.length+1,h.length+3,h.length+4,h.length+5,h.length+6,f0,f1,f2,s.hr,s.mi,s.se⟩:TE).In (h++[B0,.cells true [.int .i64 f0,.int .i64 f1,.int .i64 f2],B2,.cells true [.slice s.hr.a s.hr.n s.hr.e,.slice s.mi.a s.mi.n s.mi.e,.slice s.se.a s.se.n s.se.e],.cells true [.int .i64 23,.int .i64 59,.int .i64 59999999],.cells true [.int .i64 0,.int .i64 0,.int .i64 0],
   .cells true [.func (.func 177) #[] #[.pointer (some ⟨h.length+1,0,none⟩),.pointer (some ⟨h.length+3,0,none⟩),.pointer (some ⟨h.length+4,0,none⟩),.pointer (some ⟨h.length+5,0,none⟩),.pointer (some ⟨h.length+6,0,none⟩)]]]) 0 0 0:=by
  intro B0 B2;have A:∀l x,Agr h ((h++l).set (h.length+5) x):=fun l x=>(Agr.app h l).set (by omega) x
  exact⟨by rw[get_app]; rfl,by rw[get_app]; rfl,by rw[get_app]; rfl,by rw[get_app]; rfl,by rw[get_app]; rfl,
   fun x=>⟨H.hr.agr (A _ x),hok.hr.wide (by omega) (by omega)⟩,fun x=>⟨H.mi.agr (A _ x),hok.mi.wide (by omega) (by omega)⟩,fun x=>⟨H.se.agr (A _ x),hok.se.wide (by omega) (by omega)⟩,
   ⟨by simp,by simp,by simp,by simp⟩,hf⟩
 refine(c177_0 hE (hT _ _) true).mono ?_;rintro v h' ⟨r,q0,q1,q2,rfl,rfl,hr⟩;simp only[push_cast,oB,simprocAttr];exact⟨q0,q1,q2,r,rfl,fun h=>⟨(hr h).1 rfl,(hr h).2⟩⟩
end
section
def PD.Bd (p:PD):Prop:=∀j,j<p.n->p.s j<=10000000000000
structure SD.Bd (s:SD):Prop where
 yr:s.yr.Bd
 mo:s.mo.Bd
 dy:s.dy.Bd
 hr:s.hr.Bd
 mi:s.mi.Bd
 se:s.se.Bd
variable {E:Env}(hE:EnvT E){lim:Nat}{h:Hp}
include hE
theorem c103 (a b c:Int)(p:Option Addr)(hlim:lim<=h.length):evI E lim (.func 103) [.int .i64 a,.int .i64 b,.int .i64 c,.pointer p] h=some (.agg #[.int .i64 a,.int .i64 b,.int .i64 c,.int .i64 2,.pointer p],h++[.cells true [.int .i64 a,.int .i64 b,.int .i64 c,.int .i64 2,.pointer p]]):=by
 rw[hE.fn T103]; simp only[push_cast,ac103,hlim,simprocAttr]
theorem c55 (b:Nat)(hlim:lim<=h.length):∃l,evI E lim (.func 55) [.pointer (some ⟨b,0,none⟩)] h=some (.agg #[.int .i64 1970,.int .i64 2199,.int .i64 1,.int .i64 4,.pointer (some ⟨b,1,none⟩),.int .i64 1,.int .i64 12,.int .i64 1,.int .i64 2,.pointer (some ⟨b,2,none⟩),.int .i64 1,.int .i64 31,.int .i64 1,.int .i64 2,.pointer (some ⟨b,3,none⟩),.int .i64 0,.int .i64 23,.int .i64 1,.int .i64 2,.pointer (some ⟨b,5,none⟩),.int .i64 0,.int .i64 59,.int .i64 1,.int .i64 2,.pointer (some ⟨b,6,none⟩),.int .i64 0,.int .i64 59999999,.int .i64 1000000,.int .i64 2,.pointer (some ⟨b,7,none⟩)],h++l):=by
 have hl:∀k,(lim<=h.length+k)=True:=fun k=>by simp; omega
 refine⟨_,by rw[hE.fn T55]; simp only[push_cast,ac55,c103 hE,hl,hlim,len_cons,simprocAttr]; rfl⟩
theorem c79 {l m u d:Int}{q:Option Addr}{c:Nat}{own:Bool}(hc:h[c]?=some (.cells own [.int .i64 l,.int .i64 m,.int .i64 u,.int .i64 d,.pointer q]))(f t s:Int):evI E lim (.func 79) [.agg #[.int .i64 f,.int .i64 t,.int .i64 s],.pointer (some ⟨c,0,none⟩)] h=some (.bool (!partOk l m f t s),h):=by
 rw[hE.fn T79]; simp only[push_cast,ac79,get_old hc,c80 hE _ _ _ _ _ _ _ _ (Or.inr trivial),simprocAttr]
theorem wrong {p:PD}(H:p.In h){l m u d:Int}{q:Option Addr}{c:Nat}{own:Bool}(hc:h[c]?=some (.cells own [.int .i64 l,.int .i64 m,.int .i64 u,.int .i64 d,.pointer q])) :
  ∃r,evI E lim (.func 78) [.slice p.a p.n p.e,.func (.func 79) #[] #[.pointer (some ⟨c,0,none⟩)]] h=some (.bool r,h)/\(r=false->p.Bd->p.Ok l m):=by
 have e:=c78 hE (lim:=lim) (h:=h) (p:=79) (fa:=#[]) (fb:=#[.pointer (some ⟨c,0,none⟩)]) (q:=fun j=>!partOk l m (p.f j) (p.t j) (p.s j)) H.1.K (by have:=H.2; omega) fun j hj=>c79 hE hc _ _ _;refine⟨_,e,fun hr hbd j hj=>?_⟩;have hn:=findI_none _ p.n 0 (by simpa using hr) j (by omega) (by omega);simp only[partOk,Bool.not_eq_false',Bool.and_eq_true,decide_eq_true_eq] at hn;have:=hbd j hj;omega
theorem wrongP {p:PD}(H:p.In h)(l m u d:Int)(q:Option Addr){c:Nat}(hc:h[c]?=some (.cells true [.int .i64 l,.int .i64 m,.int .i64 u,.int .i64 d,.pointer q])) :
  PostV (evI E lim (.func 78) [.slice p.a p.n p.e,.func (.func 79) #[] #[.pointer (some ⟨c,0,none⟩)]] h) fun v h'=>h'=h/\∃r,v=.bool r/\(r=false->p.Bd->p.Ok l m):=by
 obtain⟨r,e,hr⟩:=wrong hE H hc (lim:=lim);exact PostV.of e ⟨rfl,r,rfl,hr⟩
theorem c39 {s:SD}(H:s.In h):∃r,evI E lim (.func 39) [.agg #[.int .u8 s.days,s.yr.val,s.mo.val,s.dy.val,.bool s.en,s.hr.val,s.mi.val,s.se.val,.bool s.utc]] h=some (.bool r,h)/\(r=true->s.Bd->s.Ok):=by
 suffices hs:PostV (evI E lim (.func 39) [.agg #[.int .u8 s.days,s.yr.val,s.mo.val,s.dy.val,.bool s.en,s.hr.val,s.mi.val,s.se.val,.bool s.utc]] h) fun v h'=>h'=h/\∃r,v=.bool r/\(r=true->s.Bd->s.Ok) by
  obtain⟨v,h',e,rfl,r,rfl,hr⟩:=hs.out;exact⟨r,e,hr⟩
 unfold PD.val;obtain⟨l0,e0⟩:=c55 hE (lim:=h.length) h.length (h:=h++[.cells true [.int .u8 s.days,.slice s.yr.a s.yr.n s.yr.e,.slice s.mo.a s.mo.n s.mo.e,.slice s.dy.a s.dy.n s.dy.e,.bool s.en,.slice s.hr.a s.hr.n s.hr.e,.slice s.mi.a s.mi.n s.mi.e,.slice s.se.a s.se.n s.se.e,.bool s.utc]]) (by simp);rw[hE.fn T39]; simp only[push_cast,ac39,e0,len_cons,simprocAttr];rw[evK_loop' hE.mono]
 by_cases hn0:s.yr.n>20
 ·have g1:decide ((s.yr.n:Int)>20)=true:=by simp; omega
  simp only[push_cast,lp39_0,g1,get_cons,len_cons,List.extract_toArray,List.extract_eq_take_drop,le_app,Nat.add_assoc,simprocAttr];exact⟨false,rfl,fun h=>by cases h⟩
 have g1:decide ((s.yr.n:Int)>20)=false:=by simp; omega
 simp only[push_cast,lp39_0,g1,get_cons,len_cons,List.extract_toArray,List.extract_eq_take_drop,le_app,Nat.add_assoc,simprocAttr];refine(wrongP hE (H.yr.agr (Agr.app _ _)) 1970 2199 1 4 (some ⟨h.length,1,none⟩) (by rw[get_app]; simp only[get_cons,get_app,get_app0,List.getElem?_cons_zero,List.getElem?_cons_succ])).mono ?_;rintro v h' ⟨rfl,r0,rfl,hr0⟩;cases r0 with
 | true =>
  simp only[push_cast,simprocAttr];exact⟨false,rfl,fun h=>by cases h⟩
 | false =>
 have w1:IntKind.i64.wrap 1=1:=wrap64 (by omega) (by omega);simp only[push_cast,w1,simprocAttr];rw[evK_loop' hE.mono]
 by_cases hn1:s.mo.n>20
 ·have g1:decide ((s.mo.n:Int)>20)=true:=by simp; omega
  simp only[push_cast,lp39_0,g1,get_cons,len_cons,List.extract_toArray,List.extract_eq_take_drop,le_app,Nat.add_assoc,simprocAttr];exact⟨false,rfl,fun h=>by cases h⟩
 have g1:decide ((s.mo.n:Int)>20)=false:=by simp; omega
 simp only[push_cast,lp39_0,g1,get_cons,len_cons,List.extract_toArray,List.extract_eq_take_drop,le_app,Nat.add_assoc,simprocAttr];refine(wrongP hE (H.mo.agr (Agr.app _ _)) 1 12 1 2 (some ⟨h.length,2,none⟩) (by rw[get_app]; simp only[get_cons,get_app,get_app0,List.getElem?_cons_zero,List.getElem?_cons_succ])).mono ?_;rintro v h' ⟨rfl,r1,rfl,hr1⟩;cases r1 with
 | true =>
  simp only[push_cast,simprocAttr];exact⟨false,rfl,fun h=>by cases h⟩
 | false =>
 have w1:IntKind.i64.wrap 2=2:=wrap64 (by omega) (by omega);simp only[push_cast,w1,simprocAttr];rw[evK_loop' hE.mono]
 by_cases hn2:s.dy.n>20
 ·have g1:decide ((s.dy.n:Int)>20)=true:=by simp; omega
  simp only[push_cast,lp39_0,g1,get_cons,len_cons,List.extract_toArray,List.extract_eq_take_drop,le_app,Nat.add_assoc,simprocAttr];exact⟨false,rfl,fun h=>by cases h⟩
 have g1:decide ((s.dy.n:Int)>20)=false:=by simp; omega
 simp only[push_cast,lp39_0,g1,get_cons,len_cons,List.extract_toArray,List.extract_eq_take_drop,le_app,Nat.add_assoc,simprocAttr];refine(wrongP hE (H.dy.agr (Agr.app _ _)) 1 31 1 2 (some ⟨h.length,3,none⟩) (by rw[get_app]; simp only[get_cons,get_app,get_app0,List.getElem?_cons_zero,List.getElem?_cons_succ])).mono ?_;rintro v h' ⟨rfl,r2,rfl,hr2⟩;cases r2 with
 | true =>
  simp only[push_cast,simprocAttr];exact⟨false,rfl,fun h=>by cases h⟩
 | false =>
 have w1:IntKind.i64.wrap 3=3:=wrap64 (by omega) (by omega);simp only[push_cast,w1,simprocAttr];rw[evK_loop' hE.mono]
 by_cases hn3:s.hr.n>20
 ·have g1:decide ((s.hr.n:Int)>20)=true:=by simp; omega
  simp only[push_cast,lp39_0,g1,get_cons,len_cons,List.extract_toArray,List.extract_eq_take_drop,le_app,Nat.add_assoc,simprocAttr];exact⟨false,rfl,fun h=>by cases h⟩
 have g1:decide ((s.hr.n:Int)>20)=false:=by simp; omega
 simp only[push_cast,lp39_0,g1,get_cons,len_cons,List.extract_toArray,List.extract_eq_take_drop,le_app,Nat.add_assoc,simprocAttr];refine(wrongP hE (H.hr.agr (Agr.app _ _)) 0 23 1 2 (some ⟨h.length,5,none⟩) (by rw[get_app]; simp only[get_cons,get_app,get_app0,List.getElem?_cons_zero,List.getElem?_cons_succ])).mono ?_;rintro v h' ⟨rfl,r3,rfl,hr3⟩;cases r3 with
 | true =>
  simp only[push_cast,simprocAttr];exact⟨false,rfl,fun h=>by cases h⟩
 | false =>
 have w1:IntKind.i64.wrap 4=4:=wrap64 (by omega) (by omega);simp only[push_cast,w1,simprocAttr];rw[evK_loop' hE.mono]
 by_cases hn4:s.mi.n>20
 ·have g1:decide ((s.mi.n:Int)>20)=true:=by simp; omega
  simp only[push_cast,lp39_0,g1,get_cons,len_cons,List.extract_toArray,List.extract_eq_take_drop,le_app,Nat.add_assoc,simprocAttr];exact⟨false,rfl,fun h=>by cases h⟩
 have g1:decide ((s.mi.n:Int)>20)=false:=by simp; omega
 simp only[push_cast,lp39_0,g1,get_cons,len_cons,List.extract_toArray,List.extract_eq_take_drop,le_app,Nat.add_assoc,simprocAttr];refine(wrongP hE (H.mi.agr (Agr.app _ _)) 0 59 1 2 (some ⟨h.length,6,none⟩) (by rw[get_app]; simp only[get_cons,get_app,get_app0,List.getElem?_cons_zero,List.getElem?_cons_succ])).mono ?_;rintro v h' ⟨rfl,r4,rfl,hr4⟩;cases r4 with
 | true =>
  simp only[push_cast,simprocAttr];exact⟨false,rfl,fun h=>by cases h⟩
 | false =>
 have w1:IntKind.i64.wrap 5=5:=wrap64 (by omega) (by omega);simp only[push_cast,w1,simprocAttr];rw[evK_loop' hE.mono]
 by_cases hn5:s.se.n>20
 ·have g1:decide ((s.se.n:Int)>20)=true:=by simp; omega
  simp only[push_cast,lp39_0,g1,get_cons,len_cons,List.extract_toArray,List.extract_eq_take_drop,le_app,Nat.add_assoc,simprocAttr];exact⟨false,rfl,fun h=>by cases h⟩
 have g1:decide ((s.se.n:Int)>20)=false:=by simp; omega
 simp only[push_cast,lp39_0,g1,get_cons,len_cons,List.extract_toArray,List.extract_eq_take_drop,le_app,Nat.add_assoc,simprocAttr];refine(wrongP hE (H.se.agr (Agr.app _ _)) 0 59999999 1000000 2 (some ⟨h.length,7,none⟩) (by rw[get_app]; simp only[get_cons,get_app,get_app0,List.getElem?_cons_zero,List.getElem?_cons_succ])).mono ?_;rintro v h' ⟨rfl,r5,rfl,hr5⟩;cases r5 with
 | true =>
  simp only[push_cast,simprocAttr];exact⟨false,rfl,fun h=>by cases h⟩
 | false =>
 have w1:IntKind.i64.wrap 6=6:=wrap64 (by omega) (by omega);simp only[push_cast,w1,simprocAttr];rw[evK_loop' hE.mono];simp +contextual only[push_cast,lp39_0,get_cons,len_cons,Nat.add_assoc,simprocAttr];exact⟨_,rfl,fun _ B=>⟨hr0 rfl B.yr,hr1 rfl B.mo,hr2 rfl B.dy,hr3 rfl B.hr,hr4 rfl B.mi,hr5 rfl B.se⟩⟩
theorem c149 (f t s n:Int){b:Nat}{own:Bool}(hb:h[b]?=some (.cells own [.int .i64 n])):∃r,evI E lim (.func 149) [.agg #[.int .i64 f,.int .i64 t,.int .i64 s],.pointer (some ⟨b,0,none⟩)] h=some (.bool r,h):=by
 cases e1:(n==f) with
 | true=>exact⟨_,by rw[hE.fn T149]; simp only[push_cast,ac149,get_old hb,e1,simprocAttr]; rfl⟩
 | false =>
 cases e2:decide (s>0) with
 | false=>exact⟨_,by rw[hE.fn T149]; simp only[push_cast,ac149,get_old hb,e1,e2,simprocAttr]; rfl⟩
 | true =>
 have g2:(s=0)=False:=by simp at e2; simp; omega
 cases e3:decide (n>f) with
 | false=>exact⟨_,by rw[hE.fn T149]; simp only[push_cast,ac149,get_old hb,e1,e2,e3,simprocAttr]; rfl⟩
 | true =>
 cases e4:decide (n<=t) with
 | false=>exact⟨_,by rw[hE.fn T149]; simp only[push_cast,ac149,get_old hb,e1,e2,e3,e4,simprocAttr]; rfl⟩
 | true=>exact⟨_,by rw[hE.fn T149]; simp only[push_cast,ac149,get_old hb,e1,e2,e3,e4,g2,simprocAttr]; rfl⟩
theorem c87 {p:PD}(H:p.In h)(l m u d n:Int){b o:Nat}{own:Bool}{cs:List Value}(hb:h[b]?=some (.cells own cs))(ho:cs[o]?=some (.slice p.a p.n p.e)):PostV (evI E lim (.func 87) [.agg #[.int .i64 l,.int .i64 m,.int .i64 u,.int .i64 d,.pointer (some ⟨b,o,none⟩)],.int .i64 n] h) fun v h'=>h'=h/\∃r,v=.bool r:=by
 by_cases h0:p.n=0
 ·have g0:((p.n:Int)==0)=true:=by simp[h0]
  rw[hE.fn T87]; simp +contextual only[push_cast,ac87,get_old hb,ho,g0,simprocAttr];exact⟨_,rfl⟩
 ·have g0:((p.n:Int)==0)=false:=by simpa using h0
  have hx:∀j,∃r,evI E (h++([.cells true [.int .i64 l,.int .i64 m,.int .i64 u,.int .i64 d,.pointer (some ⟨b,o,none⟩)],.cells true [.int .i64 n]]:Hp)).length (.func 149) [.agg #[.int .i64 (p.f j),.int .i64 (p.t j),.int .i64 (p.s j)],.pointer (some ⟨h.length+1,0,none⟩)] (h++([.cells true [.int .i64 l,.int .i64 m,.int .i64 u,.int .i64 d,.pointer (some ⟨b,o,none⟩)],.cells true [.int .i64 n]]:Hp))=some (.bool r,h++([.cells true [.int .i64 l,.int .i64 m,.int .i64 u,.int .i64 d,.pointer (some ⟨b,o,none⟩)],.cells true [.int .i64 n]]:Hp)) :=
   fun j=>c149 hE _ _ _ n (by rw[get_app]; rfl)
  obtain⟨q,hq⟩:∃q:Nat->Bool,∀j,evI E (h++([.cells true [.int .i64 l,.int .i64 m,.int .i64 u,.int .i64 d,.pointer (some ⟨b,o,none⟩)],.cells true [.int .i64 n]]:Hp)).length (.func 149) [.agg #[.int .i64 (p.f j),.int .i64 (p.t j),.int .i64 (p.s j)],.pointer (some ⟨h.length+1,0,none⟩)] (h++([.cells true [.int .i64 l,.int .i64 m,.int .i64 u,.int .i64 d,.pointer (some ⟨b,o,none⟩)],.cells true [.int .i64 n]]:Hp))=some (.bool (q j),h++([.cells true [.int .i64 l,.int .i64 m,.int .i64 u,.int .i64 d,.pointer (some ⟨b,o,none⟩)],.cells true [.int .i64 n]]:Hp)) :=
   ⟨fun j=>Classical.choose (hx j),fun j=>Classical.choose_spec (hx j)⟩
  have e:=c78 hE (lim:=h.length) (p:=149) (fa:=#[]) (fb:=#[.pointer (some ⟨h.length+1,0,none⟩)]) (q:=q) (H.agr (Agr.app _ _)).1.K (by have:=H.2; omega) fun j hj=>hq j;rw[hE.fn T87]; simp +contextual only[push_cast,ac87,get_old hb,ho,g0,e,simprocAttr];exact⟨_,rfl⟩
theorem c42 {s:SD}(H:s.In h)(y m d hh mi se us:Int):PostV (evI E lim (.func 42) [.agg #[.int .u8 s.days,s.yr.val,s.mo.val,s.dy.val,.bool s.en,s.hr.val,s.mi.val,s.se.val,.bool s.utc],.agg #[.int .i64 y,.int .i64 m,.int .i64 d,.int .i64 hh,.int .i64 mi,.int .i64 se,.int .i64 us]] h) fun v h'=>h'=h/\∃r,v=.bool r:=by
 unfold PD.val;cases hm:microOk y m d hh mi se us with
 | false =>
  rw[hE.fn T42]; simp only[push_cast,ac42,c84 hE,hm,simprocAttr];exact⟨_,rfl⟩
 | true =>
 have hr:rightF y m d=true:=by simp only[microOk,Bool.and_eq_true] at hm; exact hm.1
 obtain⟨a1,a2,a3,a4,a5,a6⟩:=right_in hr;obtain⟨r39,e39,-⟩:=c39 hE (lim:=h.length) (s:=s) (h:=h++[.cells true [.int .u8 s.days,.slice s.yr.a s.yr.n s.yr.e,.slice s.mo.a s.mo.n s.mo.e,.slice s.dy.a s.dy.n s.dy.e,.bool s.en,.slice s.hr.a s.hr.n s.hr.e,.slice s.mi.a s.mi.n s.mi.e,.slice s.se.a s.se.n s.se.e,.bool s.utc],.cells true [.int .i64 y,.int .i64 m,.int .i64 d,.int .i64 hh,.int .i64 mi,.int .i64 se,.int .i64 us]]) (H.agr (Agr.app _ _));unfold PD.val at e39;cases r39 with
 | false =>
  rw[hE.fn T42]; simp only[push_cast,ac42,c84 hE,hm,e39,simprocAttr];exact⟨_,rfl⟩
 | true =>
 have wd:weekdayF y m d=(daysF y m d+3)%7+1:=by simp[weekdayF,hr]
 have wn:(IntKind.i64.wrap (weekdayF y m d-1)<0)=False:=by
  rw[wd,wrap64 (by omega) (by omega)];simp; omega
 cases hen:s.en with
 | false =>
  rw[hen] at e39;cases hd:(s.days.tmod 127==0) with
  | true =>
   rw[hE.fn T42]; simp only[push_cast,ac42,c84 hE,hm,e39,hd,hen,simprocAttr];obtain⟨l1,e55⟩:=c55 hE (lim:=h.length) h.length (h:=h++([.cells true [.int .u8 s.days,.slice s.yr.a s.yr.n s.yr.e,.slice s.mo.a s.mo.n s.mo.e,.slice s.dy.a s.dy.n s.dy.e,.bool s.en,.slice s.hr.a s.hr.n s.hr.e,.slice s.mi.a s.mi.n s.mi.e,.slice s.se.a s.se.n s.se.e,.bool s.utc],.cells true [.int .i64 y,.int .i64 m,.int .i64 d,.int .i64 hh,.int .i64 mi,.int .i64 se,.int .i64 us],.cells true [.int .i64 y,.int .i64 m,.int .i64 d,.int .i64 hh,.int .i64 mi,.int .i64 (IntKind.i64.wrap (IntKind.i64.wrap (se*1000000)+us))]]:Hp)) (by simp);rw[hen] at e55;simp only[push_cast,e55,len_cons,Nat.add_assoc,simprocAttr];rw[evK_loop' hE.mono];have w1:IntKind.i64.wrap 1=1:=wrap64 (by omega) (by omega);simp only[push_cast,lp42_0,get_cons,len_cons,List.extract_toArray,List.extract_eq_take_drop,le_app,Nat.add_assoc,Nat.mul_one,Nat.zero_mul,simprocAttr];refine(c87 hE (H.yr.agr (Agr.app _ _)) 1970 2199 1 4 _ (b:=h.length) (o:=1) (by rw[get_app0]; rfl) rfl).mono ?_;rintro v h' ⟨rfl,r,rfl⟩;cases r with
   | false =>
    simp only[push_cast,simprocAttr];exact⟨_,rfl⟩
   | true =>
   simp only[push_cast,w1,simprocAttr];rw[evK_loop' hE.mono];have w1:IntKind.i64.wrap 2=2:=wrap64 (by omega) (by omega);simp only[push_cast,lp42_0,get_cons,len_cons,List.extract_toArray,List.extract_eq_take_drop,le_app,Nat.add_assoc,Nat.mul_one,Nat.zero_mul,simprocAttr];refine(c87 hE (H.mo.agr (Agr.app _ _)) 1 12 1 2 _ (b:=h.length) (o:=2) (by rw[get_app0]; rfl) rfl).mono ?_;rintro v h' ⟨rfl,r,rfl⟩;cases r with
   | false =>
    simp only[push_cast,simprocAttr];exact⟨_,rfl⟩
   | true =>
   simp only[push_cast,w1,simprocAttr];rw[evK_loop' hE.mono];have w1:IntKind.i64.wrap 3=3:=wrap64 (by omega) (by omega);simp only[push_cast,lp42_0,get_cons,len_cons,List.extract_toArray,List.extract_eq_take_drop,le_app,Nat.add_assoc,Nat.mul_one,Nat.zero_mul,simprocAttr];refine(c87 hE (H.dy.agr (Agr.app _ _)) 1 31 1 2 _ (b:=h.length) (o:=3) (by rw[get_app0]; rfl) rfl).mono ?_;rintro v h' ⟨rfl,r,rfl⟩;cases r with
   | false =>
    simp only[push_cast,simprocAttr];exact⟨_,rfl⟩
   | true =>
   simp only[push_cast,w1,simprocAttr];rw[evK_loop' hE.mono];have w1:IntKind.i64.wrap 4=4:=wrap64 (by omega) (by omega);simp only[push_cast,lp42_0,get_cons,len_cons,List.extract_toArray,List.extract_eq_take_drop,le_app,Nat.add_assoc,Nat.mul_one,Nat.zero_mul,simprocAttr];refine(c87 hE (H.hr.agr (Agr.app _ _)) 0 23 1 2 _ (b:=h.length) (o:=5) (by rw[get_app0]; rfl) rfl).mono ?_;rintro v h' ⟨rfl,r,rfl⟩;cases r with
   | false =>
    simp only[push_cast,simprocAttr];exact⟨_,rfl⟩
   | true =>
   simp only[push_cast,w1,simprocAttr];rw[evK_loop' hE.mono];have w1:IntKind.i64.wrap 5=5:=wrap64 (by omega) (by omega);simp only[push_cast,lp42_0,get_cons,len_cons,List.extract_toArray,List.extract_eq_take_drop,le_app,Nat.add_assoc,Nat.mul_one,Nat.zero_mul,simprocAttr];refine(c87 hE (H.mi.agr (Agr.app _ _)) 0 59 1 2 _ (b:=h.length) (o:=6) (by rw[get_app0]; rfl) rfl).mono ?_;rintro v h' ⟨rfl,r,rfl⟩;cases r with
   | false =>
    simp only[push_cast,simprocAttr];exact⟨_,rfl⟩
   | true =>
   simp only[push_cast,w1,simprocAttr];rw[evK_loop' hE.mono];have w1:IntKind.i64.wrap 6=6:=wrap64 (by omega) (by omega);simp only[push_cast,lp42_0,get_cons,len_cons,List.extract_toArray,List.extract_eq_take_drop,le_app,Nat.add_assoc,Nat.mul_one,Nat.zero_mul,simprocAttr];refine(c87 hE (H.se.agr (Agr.app _ _)) 0 59999999 1000000 2 _ (b:=h.length) (o:=7) (by rw[get_app0]; rfl) rfl).mono ?_;rintro v h' ⟨rfl,r,rfl⟩;cases r with
   | false =>
    simp only[push_cast,simprocAttr];exact⟨_,rfl⟩
   | true =>
   simp only[push_cast,w1,simprocAttr];rw[evK_loop' hE.mono];simp only[push_cast,lp42_0,simprocAttr];exact⟨_,rfl⟩
  | false =>
   rw[hE.fn T42]; simp only[push_cast,ac42,c84 hE,hm,e39,hd,hen,c85 hE,wn,simprocAttr];rw[post_if];split
   ·simp only[push_cast,simprocAttr];exact⟨_,rfl⟩
   ·simp only[push_cast,simprocAttr];obtain⟨l1,e55⟩:=c55 hE (lim:=h.length) h.length (h:=h++([.cells true [.int .u8 s.days,.slice s.yr.a s.yr.n s.yr.e,.slice s.mo.a s.mo.n s.mo.e,.slice s.dy.a s.dy.n s.dy.e,.bool s.en,.slice s.hr.a s.hr.n s.hr.e,.slice s.mi.a s.mi.n s.mi.e,.slice s.se.a s.se.n s.se.e,.bool s.utc],.cells true [.int .i64 y,.int .i64 m,.int .i64 d,.int .i64 hh,.int .i64 mi,.int .i64 se,.int .i64 us],.cells true [.int .i64 y,.int .i64 m,.int .i64 d,.int .i64 hh,.int .i64 mi,.int .i64 (IntKind.i64.wrap (IntKind.i64.wrap (se*1000000)+us))]]:Hp)) (by simp);rw[hen] at e55;simp only[push_cast,e55,len_cons,Nat.add_assoc,simprocAttr];rw[evK_loop' hE.mono];have w1:IntKind.i64.wrap 1=1:=wrap64 (by omega) (by omega);simp only[push_cast,lp42_0,get_cons,len_cons,List.extract_toArray,List.extract_eq_take_drop,le_app,Nat.add_assoc,Nat.mul_one,Nat.zero_mul,simprocAttr];refine(c87 hE (H.yr.agr (Agr.app _ _)) 1970 2199 1 4 _ (b:=h.length) (o:=1) (by rw[get_app0]; rfl) rfl).mono ?_;rintro v h' ⟨rfl,r,rfl⟩;cases r with
    | false =>
     simp only[push_cast,simprocAttr];exact⟨_,rfl⟩
    | true =>
    simp only[push_cast,w1,simprocAttr];rw[evK_loop' hE.mono];have w1:IntKind.i64.wrap 2=2:=wrap64 (by omega) (by omega);simp only[push_cast,lp42_0,get_cons,len_cons,List.extract_toArray,List.extract_eq_take_drop,le_app,Nat.add_assoc,Nat.mul_one,Nat.zero_mul,simprocAttr];refine(c87 hE (H.mo.agr (Agr.app _ _)) 1 12 1 2 _ (b:=h.length) (o:=2) (by rw[get_app0]; rfl) rfl).mono ?_;rintro v h' ⟨rfl,r,rfl⟩;cases r with
    | false =>
     simp only[push_cast,simprocAttr];exact⟨_,rfl⟩
    | true =>
    simp only[push_cast,w1,simprocAttr];rw[evK_loop' hE.mono];have w1:IntKind.i64.wrap 3=3:=wrap64 (by omega) (by omega);simp only[push_cast,lp42_0,get_cons,len_cons,List.extract_toArray,List.extract_eq_take_drop,le_app,Nat.add_assoc,Nat.mul_one,Nat.zero_mul,simprocAttr];refine(c87 hE (H.dy.agr (Agr.app _ _)) 1 31 1 2 _ (b:=h.length) (o:=3) (by rw[get_app0]; rfl) rfl).mono ?_;rintro v h' ⟨rfl,r,rfl⟩;cases r with
    | false =>
     simp only[push_cast,simprocAttr];exact⟨_,rfl⟩
    | true =>
    simp only[push_cast,w1,simprocAttr];rw[evK_loop' hE.mono];have w1:IntKind.i64.wrap 4=4:=wrap64 (by omega) (by omega);simp only[push_cast,lp42_0,get_cons,len_cons,List.extract_toArray,List.extract_eq_take_drop,le_app,Nat.add_assoc,Nat.mul_one,Nat.zero_mul,simprocAttr];refine(c87 hE (H.hr.agr (Agr.app _ _)) 0 23 1 2 _ (b:=h.length) (o:=5) (by rw[get_app0]; rfl) rfl).mono ?_;rintro v h' ⟨rfl,r,rfl⟩;cases r with
    | false =>
     simp only[push_cast,simprocAttr];exact⟨_,rfl⟩
    | true =>
    simp only[push_cast,w1,simprocAttr];rw[evK_loop' hE.mono];have w1:IntKind.i64.wrap 5=5:=wrap64 (by omega) (by omega);simp only[push_cast,lp42_0,get_cons,len_cons,List.extract_toArray,List.extract_eq_take_drop,le_app,Nat.add_assoc,Nat.mul_one,Nat.zero_mul,simprocAttr];refine(c87 hE (H.mi.agr (Agr.app _ _)) 0 59 1 2 _ (b:=h.length) (o:=6) (by rw[get_app0]; rfl) rfl).mono ?_;rintro v h' ⟨rfl,r,rfl⟩;cases r with
    | false =>
     simp only[push_cast,simprocAttr];exact⟨_,rfl⟩
    | true =>
    simp only[push_cast,w1,simprocAttr];rw[evK_loop' hE.mono];have w1:IntKind.i64.wrap 6=6:=wrap64 (by omega) (by omega);simp only[push_cast,lp42_0,get_cons,len_cons,List.extract_toArray,List.extract_eq_take_drop,le_app,Nat.add_assoc,Nat.mul_one,Nat.zero_mul,simprocAttr];refine(c87 hE (H.se.agr (Agr.app _ _)) 0 59999999 1000000 2 _ (b:=h.length) (o:=7) (by rw[get_app0]; rfl) rfl).mono ?_;rintro v h' ⟨rfl,r,rfl⟩;cases r with
    | false =>
     simp only[push_cast,simprocAttr];exact⟨_,rfl⟩
    | true =>
    simp only[push_cast,w1,simprocAttr];rw[evK_loop' hE.mono];simp only[push_cast,lp42_0,simprocAttr];exact⟨_,rfl⟩
 | true =>
  rw[hen] at e39;have wl:=long_in a1 a2 a3 a4;cases hd:(s.days.tmod 127==0) with
  | true =>
   rw[hE.fn T42]; simp only[push_cast,ac42,c84 hE,hm,e39,hd,hen,c86 hE,simprocAttr];obtain⟨l1,e55⟩:=c55 hE (lim:=h.length) h.length (h:=h++([.cells true [.int .u8 s.days,.slice s.yr.a s.yr.n s.yr.e,.slice s.mo.a s.mo.n s.mo.e,.slice s.dy.a s.dy.n s.dy.e,.bool s.en,.slice s.hr.a s.hr.n s.hr.e,.slice s.mi.a s.mi.n s.mi.e,.slice s.se.a s.se.n s.se.e,.bool s.utc],.cells true [.int .i64 y,.int .i64 m,.int .i64 d,.int .i64 hh,.int .i64 mi,.int .i64 se,.int .i64 us],.cells true [.int .i64 y,.int .i64 m,.int .i64 (IntKind.i64.wrap (IntKind.i64.wrap (longF y m-d)+1)),.int .i64 hh,.int .i64 mi,.int .i64 (IntKind.i64.wrap (IntKind.i64.wrap (se*1000000)+us))]]:Hp)) (by simp);rw[hen] at e55;simp only[push_cast,e55,len_cons,Nat.add_assoc,simprocAttr];rw[evK_loop' hE.mono];have w1:IntKind.i64.wrap 1=1:=wrap64 (by omega) (by omega);simp only[push_cast,lp42_0,get_cons,len_cons,List.extract_toArray,List.extract_eq_take_drop,le_app,Nat.add_assoc,Nat.mul_one,Nat.zero_mul,simprocAttr];refine(c87 hE (H.yr.agr (Agr.app _ _)) 1970 2199 1 4 _ (b:=h.length) (o:=1) (by rw[get_app0]; rfl) rfl).mono ?_;rintro v h' ⟨rfl,r,rfl⟩;cases r with
   | false =>
    simp only[push_cast,simprocAttr];exact⟨_,rfl⟩
   | true =>
   simp only[push_cast,w1,simprocAttr];rw[evK_loop' hE.mono];have w1:IntKind.i64.wrap 2=2:=wrap64 (by omega) (by omega);simp only[push_cast,lp42_0,get_cons,len_cons,List.extract_toArray,List.extract_eq_take_drop,le_app,Nat.add_assoc,Nat.mul_one,Nat.zero_mul,simprocAttr];refine(c87 hE (H.mo.agr (Agr.app _ _)) 1 12 1 2 _ (b:=h.length) (o:=2) (by rw[get_app0]; rfl) rfl).mono ?_;rintro v h' ⟨rfl,r,rfl⟩;cases r with
   | false =>
    simp only[push_cast,simprocAttr];exact⟨_,rfl⟩
   | true =>
   simp only[push_cast,w1,simprocAttr];rw[evK_loop' hE.mono];have w1:IntKind.i64.wrap 3=3:=wrap64 (by omega) (by omega);simp only[push_cast,lp42_0,get_cons,len_cons,List.extract_toArray,List.extract_eq_take_drop,le_app,Nat.add_assoc,Nat.mul_one,Nat.zero_mul,simprocAttr];refine(c87 hE (H.dy.agr (Agr.app _ _)) 1 31 1 2 _ (b:=h.length) (o:=3) (by rw[get_app0]; rfl) rfl).mono ?_;rintro v h' ⟨rfl,r,rfl⟩;cases r with
   | false =>
    simp only[push_cast,simprocAttr];exact⟨_,rfl⟩
   | true =>
   simp only[push_cast,w1,simprocAttr];rw[evK_loop' hE.mono];have w1:IntKind.i64.wrap 4=4:=wrap64 (by omega) (by omega);simp only[push_cast,lp42_0,get_cons,len_cons,List.extract_toArray,List.extract_eq_take_drop,le_app,Nat.add_assoc,Nat.mul_one,Nat.zero_mul,simprocAttr];refine(c87 hE (H.hr.agr (Agr.app _ _)) 0 23 1 2 _ (b:=h.length) (o:=5) (by rw[get_app0]; rfl) rfl).mono ?_;rintro v h' ⟨rfl,r,rfl⟩;cases r with
   | false =>
    simp only[push_cast,simprocAttr];exact⟨_,rfl⟩
   | true =>
   simp only[push_cast,w1,simprocAttr];rw[evK_loop' hE.mono];have w1:IntKind.i64.wrap 5=5:=wrap64 (by omega) (by omega);simp only[push_cast,lp42_0,get_cons,len_cons,List.extract_toArray,List.extract_eq_take_drop,le_app,Nat.add_assoc,Nat.mul_one,Nat.zero_mul,simprocAttr];refine(c87 hE (H.mi.agr (Agr.app _ _)) 0 59 1 2 _ (b:=h.length) (o:=6) (by rw[get_app0]; rfl) rfl).mono ?_;rintro v h' ⟨rfl,r,rfl⟩;cases r with
   | false =>
    simp only[push_cast,simprocAttr];exact⟨_,rfl⟩
   | true =>
   simp only[push_cast,w1,simprocAttr];rw[evK_loop' hE.mono];have w1:IntKind.i64.wrap 6=6:=wrap64 (by omega) (by omega);simp only[push_cast,lp42_0,get_cons,len_cons,List.extract_toArray,List.extract_eq_take_drop,le_app,Nat.add_assoc,Nat.mul_one,Nat.zero_mul,simprocAttr];refine(c87 hE (H.se.agr (Agr.app _ _)) 0 59999999 1000000 2 _ (b:=h.length) (o:=7) (by rw[get_app0]; rfl) rfl).mono ?_;rintro v h' ⟨rfl,r,rfl⟩;cases r with
   | false =>
    simp only[push_cast,simprocAttr];exact⟨_,rfl⟩
   | true =>
   simp only[push_cast,w1,simprocAttr];rw[evK_loop' hE.mono];simp only[push_cast,lp42_0,simprocAttr];exact⟨_,rfl⟩
  | false =>
   rw[hE.fn T42]; simp only[push_cast,ac42,c84 hE,hm,e39,hd,hen,c85 hE,wn,simprocAttr];rw[post_if];split
   ·simp only[push_cast,simprocAttr];exact⟨_,rfl⟩
   ·simp only[push_cast,c86 hE,simprocAttr];obtain⟨l1,e55⟩:=c55 hE (lim:=h.length) h.length (h:=h++([.cells true [.int .u8 s.days,.slice s.yr.a s.yr.n s.yr.e,.slice s.mo.a s.mo.n s.mo.e,.slice s.dy.a s.dy.n s.dy.e,.bool s.en,.slice s.hr.a s.hr.n s.hr.e,.slice s.mi.a s.mi.n s.mi.e,.slice s.se.a s.se.n s.se.e,.bool s.utc],.cells true [.int .i64 y,.int .i64 m,.int .i64 d,.int .i64 hh,.int .i64 mi,.int .i64 se,.int .i64 us],.cells true [.int .i64 y,.int .i64 m,.int .i64 (IntKind.i64.wrap (IntKind.i64.wrap (longF y m-d)+1)),.int .i64 hh,.int .i64 mi,.int .i64 (IntKind.i64.wrap (IntKind.i64.wrap (se*1000000)+us))]]:Hp)) (by simp);rw[hen] at e55;simp only[push_cast,e55,len_cons,Nat.add_assoc,simprocAttr];rw[evK_loop' hE.mono];have w1:IntKind.i64.wrap 1=1:=wrap64 (by omega) (by omega);simp only[push_cast,lp42_0,get_cons,len_cons,List.extract_toArray,List.extract_eq_take_drop,le_app,Nat.add_assoc,Nat.mul_one,Nat.zero_mul,simprocAttr];refine(c87 hE (H.yr.agr (Agr.app _ _)) 1970 2199 1 4 _ (b:=h.length) (o:=1) (by rw[get_app0]; rfl) rfl).mono ?_;rintro v h' ⟨rfl,r,rfl⟩;cases r with
    | false =>
     simp only[push_cast,simprocAttr];exact⟨_,rfl⟩
    | true =>
    simp only[push_cast,w1,simprocAttr];rw[evK_loop' hE.mono];have w1:IntKind.i64.wrap 2=2:=wrap64 (by omega) (by omega);simp only[push_cast,lp42_0,get_cons,len_cons,List.extract_toArray,List.extract_eq_take_drop,le_app,Nat.add_assoc,Nat.mul_one,Nat.zero_mul,simprocAttr];refine(c87 hE (H.mo.agr (Agr.app _ _)) 1 12 1 2 _ (b:=h.length) (o:=2) (by rw[get_app0]; rfl) rfl).mono ?_;rintro v h' ⟨rfl,r,rfl⟩;cases r with
    | false =>
     simp only[push_cast,simprocAttr];exact⟨_,rfl⟩
    | true =>
    simp only[push_cast,w1,simprocAttr];rw[evK_loop' hE.mono];have w1:IntKind.i64.wrap 3=3:=wrap64 (by omega) (by omega);simp only[push_cast,lp42_0,get_cons,len_cons,List.extract_toArray,List.extract_eq_take_drop,le_app,Nat.add_assoc,Nat.mul_one,Nat.zero_mul,simprocAttr];refine(c87 hE (H.dy.agr (Agr.app _ _)) 1 31 1 2 _ (b:=h.length) (o:=3) (by rw[get_app0]; rfl) rfl).mono ?_;rintro v h' ⟨rfl,r,rfl⟩;cases r with
    | false =>
     simp only[push_cast,simprocAttr];exact⟨_,rfl⟩
    | true =>
    simp only[push_cast,w1,simprocAttr];rw[evK_loop' hE.mono];have w1:IntKind.i64.wrap 4=4:=wrap64 (by omega) (by omega);simp only[push_cast,lp42_0,get_cons,len_cons,List.extract_toArray,List.extract_eq_take_drop,le_app,Nat.add_assoc,Nat.mul_one,Nat.zero_mul,simprocAttr];refine(c87 hE (H.hr.agr (Agr.app _ _)) 0 23 1 2 _ (b:=h.length) (o:=5) (by rw[get_app0]; rfl) rfl).mono ?_;rintro v h' ⟨rfl,r,rfl⟩;cases r with
    | false =>
     simp only[push_cast,simprocAttr];exact⟨_,rfl⟩
    | true =>
    simp only[push_cast,w1,simprocAttr];rw[evK_loop' hE.mono];have w1:IntKind.i64.wrap 5=5:=wrap64 (by omega) (by omega);simp only[push_cast,lp42_0,get_cons,len_cons,List.extract_toArray,List.extract_eq_take_drop,le_app,Nat.add_assoc,Nat.mul_one,Nat.zero_mul,simprocAttr];refine(c87 hE (H.mi.agr (Agr.app _ _)) 0 59 1 2 _ (b:=h.length) (o:=6) (by rw[get_app0]; rfl) rfl).mono ?_;rintro v h' ⟨rfl,r,rfl⟩;cases r with
    | false =>
     simp only[push_cast,simprocAttr];exact⟨_,rfl⟩
    | true =>
    simp only[push_cast,w1,simprocAttr];rw[evK_loop' hE.mono];have w1:IntKind.i64.wrap 6=6:=wrap64 (by omega) (by omega);simp only[push_cast,lp42_0,get_cons,len_cons,List.extract_toArray,List.extract_eq_take_drop,le_app,Nat.add_assoc,Nat.mul_one,Nat.zero_mul,simprocAttr];refine(c87 hE (H.se.agr (Agr.app _ _)) 0 59999999 1000000 2 _ (b:=h.length) (o:=7) (by rw[get_app0]; rfl) rfl).mono ?_;rintro v h' ⟨rfl,r,rfl⟩;cases r with
    | false =>
     simp only[push_cast,simprocAttr];exact⟨_,rfl⟩
    | true =>
    simp only[push_cast,w1,simprocAttr];rw[evK_loop' hE.mono];simp only[push_cast,lp42_0,simprocAttr];exact⟨_,rfl⟩
theorem c176 {s:SD}(H:s.In h)(y m d:Int):PostV (evI E lim (.func 176) [.agg #[.int .u8 s.days,s.yr.val,s.mo.val,s.dy.val,.bool s.en,s.hr.val,s.mi.val,s.se.val,.bool s.utc],.agg #[.int .i64 y,.int .i64 m,.int .i64 d]] h) fun v h'=>h'=h/\∃r,v=.bool r:=by
 unfold PD.val;rw[hE.fn T176]; simp only[push_cast,ac176,le_app,simprocAttr]
 have hS:∀B0 B1,(⟨s.days,s.yr,s.mo,s.dy,s.en,⟨none,0,0,fun _=>0,fun _=>0,fun _=>0⟩,⟨none,0,0,fun _=>0,fun _=>0,fun _=>0⟩,⟨some ⟨h.length+2,0,none⟩,1,3,fun _=>0,fun _=>0,fun _=>0⟩,s.utc⟩:SD).In (h++[B0,B1,.cells true [.int .i64 0,.int .i64 0,.int .i64 0]]):=by
  intro B0 B1;have A:=Agr.app h [B0,B1,.cells true [.int .i64 0,.int .i64 0,.int .i64 0]];refine⟨H.yr.agr A,H.mo.agr A,H.dy.agr A,⟨Or.inl ⟨rfl,rfl,rfl⟩,by simp⟩,⟨Or.inl ⟨rfl,rfl,rfl⟩,by simp⟩,⟨Or.inr ⟨_,_,true,_,rfl,rfl,by rw[get_app]; rfl,by simp,fun j hj=>?_⟩,by simp⟩⟩;have hj':j<1:=hj;have:j=0:=by omega
  subst this;rfl
 refine(c42 hE (hS _ _) _ _ _ _ _ _ _).mono ?_;rintro v h' ⟨rfl,r,rfl⟩;simp only[push_cast,simprocAttr];exact⟨_,rfl⟩
end
section
def SD.cv (s:SD):List Value:=[.int .u8 s.days,.slice s.yr.a s.yr.n s.yr.e,.slice s.mo.a s.mo.n s.mo.e,.slice s.dy.a s.dy.n s.dy.e,.bool s.en,.slice s.hr.a s.hr.n s.hr.e,.slice s.mi.a s.mi.n s.mi.e,.slice s.se.a s.se.n s.se.e,.bool s.utc]
def dateGE (y m d fy fm fd:Int):Prop:=fy<y\/(fy=y/\(fm<m\/(fm=m/\fd<=d)))
structure DCtx (E:Env)(n0 l bs bf:Nat)(s:SD)(fy fm fd:Int)(J Q:Hp->Prop):Prop where
 ok:s.Ok
 at_:∀X,n0<=X.length->J (X.take n0)->X[bs]?=some (.cells true s.cv)/\X[bf]?=some (.cells true [.int .i64 fy,.int .i64 fm,.int .i64 fd])/\s.In X
 step:∀X y m d,n0<=X.length->J (X.take n0)->rightF y m d=true->1970<=y->y<=2199->dateGE y m d fy fm fd ->
   PostV (evI E n0 (.yield l) [.agg #[.int .i64 y,.int .i64 m,.int .i64 d]] X) fun v X'=>X.length<=X'.length/\(∀i,n0<=i->i<X.length->X'[i]?=X[i]?)/\((v=.bool true/\J (X'.take n0))\/(v=.bool false/\Q (X'.take n0)))
theorem take_take_app {X Y:Hp}{n:Nat}(h:n<=X.length):(X++Y).take n=X.take n:=List.take_append_of_le_length h
variable {E:Env}(hE:EnvT E){lim:Nat}{h:Hp}
include hE
theorem days_loop {n0 l bs bf:Nat}{s:SD}{fy fm fd:Int}{J Q:Hp->Prop}(D:DCtx E n0 l bs bf s fy fm fd J Q){y m:Int}(hy1:1970<=y)(hy2:y<=2199)(hm1:1<=m)(hm2:m<=12){f:Fr}{X:Hp}{d0:Int}{v5 v6 v8:Value}
  (f0:f.rd 0=.func (.yield l) #[] #[])(f1:f.rd 1=.pointer (some ⟨bs,0,none⟩))(f2:f.rd 2=.pointer (some ⟨bf,0,none⟩))(f4:f.rd 4=.int .i64 y)(f5:f.rd 5=v5)(f6:f.rd 6=v6)(f7:f.rd 7=.int .i64 m)(f8:f.rd 8=v8)(f10:f.rd 10=.int .i64 d0)
  (hd:1<=d0)(hd2:d0<=100)(hge:∀d,d0<=d->dateGE y m d fy fm fd)(hX:n0<=X.length)(hXJ:J (X.take n0)){P:AX->Fr->Hp->Prop}
  (hexit:∀f' X',f'.rd 0=.func (.yield l) #[] #[]->f'.rd 1=.pointer (some ⟨bs,0,none⟩)->f'.rd 2=.pointer (some ⟨bf,0,none⟩)->f'.rd 4=.int .i64 y->f'.rd 5=v5->f'.rd 6=v6->f'.rd 7=.int .i64 m->f'.rd 8=v8->X.length<=X'.length->(∀i,n0<=i->i<X.length->X'[i]?=X[i]?)->J (X'.take n0)->P (.exit 4) f' X')
  (hret:∀f' X',n0<=X'.length->Q (X'.take n0)->P .ret f' X'):Post (evK E n0 (.loop lp174_0) f X) P:=by
 obtain⟨lv,hlv⟩:∃lv,longF y m=lv:=⟨_,rfl⟩;have hl:=long_in (y:=y) (m:=m) (by omega) (by omega) hm1 hm2;rw[hlv] at hl
 refine loop_post hE.mono (fun k g W=>∃d:Int,g.rd 0=.func (.yield l) #[] #[]/\g.rd 1=.pointer (some ⟨bs,0,none⟩)/\g.rd 2=.pointer (some ⟨bf,0,none⟩)/\g.rd 4=.int .i64 y/\g.rd 5=v5/\g.rd 6=v6/\g.rd 7=.int .i64 m/\g.rd 8=v8/\g.rd 10=.int .i64 d /\
  d0<=d/\d<=101/\(102-d).toNat=k/\X.length<=W.length/\(∀i,n0<=i->i<X.length->W[i]?=X[i]?)/\J (W.take n0)) ?_ (102-d0).toNat _ _ ⟨d0,f0,f1,f2,f4,f5,f6,f7,f8,f10,Int.le_refl _,by omega,rfl,Nat.le_refl _,fun _ _ _=>rfl,hXJ⟩
 rintro k g W ⟨d,g0,g1,g2,g4,g5,g6,g7,g8,g10,e1,e2,hk,wl,wo,wJ⟩
 by_cases hdl:d<=lv
 ·obtain⟨p1,p2,p3⟩:=D.at_ W (by omega) wJ;have p1':=p1;simp only[SD.cv] at p1';have w1:=w64 (x:=d+1);have hn0:∀q:Prop,(n0<=W.length\/q)=True:=fun q=>by simp; omega
  simp only[push_cast,lp174_0,g0,g1,g2,g4,g7,g10,c86 hE,hlv,hdl,hn0,get_old p1',simprocAttr];have hr:rightF y m d=true:=by simp only[rightF,hlv,Bool.and_eq_true,decide_eq_true_eq]; omega
  have h176:=c176 hE (lim:=n0) (p3.agr (Agr.app W [.cells true [.int .i64 y,.int .i64 m,.int .i64 d]])) y m d;unfold PD.val at h176;refine h176.mono ?_;rintro v h' ⟨rfl,r,rfl⟩;cases r with
  | false =>
   simp only[push_cast,g0,g1,g2,g4,g5,g6,g7,g8,g10,w1,simprocAttr];refine⟨(102-(d+1)).toNat,by omega,d+1,rfl,by omega,by omega,rfl,by omega,fun i i1 i2=>by rw[get_lt (by omega)]; exact wo i i1 i2,by rw[take_take_app (by omega)]; exact wJ⟩
  | true =>
   simp only[push_cast,g0,g1,g2,g4,g5,g6,g7,g8,g10,simprocAttr];refine(D.step _ y m d (by simp; omega) (by rw[take_take_app (by omega)]; exact wJ) hr (by omega) (by omega) (hge d e1)).mono ?_;rintro v W' ⟨s1,s2,⟨rfl,sJ⟩ | ⟨rfl,sQ⟩⟩
   ·simp only[List.length_append,List.length_cons,List.length_nil] at s1 s2;simp only[push_cast,g0,g1,g2,g4,g5,g6,g7,g8,g10,w1,simprocAttr];refine⟨(102-(d+1)).toNat,by omega,d+1,rfl,by omega,by omega,rfl,by omega,fun i i1 i2=>?_,sJ⟩;rw[s2 i i1 (by omega),get_lt (by omega)];exact wo i i1 i2
   ·simp only[List.length_append,List.length_cons,List.length_nil] at s1;simp only[push_cast,simprocAttr];exact hret _ _ (by omega) sQ
 ·simp only[push_cast,lp174_0,g4,g7,g10,c86 hE,hlv,hdl,simprocAttr];refine hexit _ _ ?_ ?_ ?_ ?_ ?_ ?_ ?_ ?_ wl wo wJ
  all_goals first | assumption | (simp only[push_cast,g0,g1,g2,g4,g5,g6,g7,g8,simprocAttr])
end
section
variable {E:Env}(hE:EnvT E){lim:Nat}{h:Hp}
include hE
theorem months_loop {n0 l bs bf:Nat}{s:SD}{fy fm fd:Int}{J Q:Hp->Prop}(D:DCtx E n0 l bs bf s fy fm fd J Q){y m lm ld:Int}{b:Bool}{bl:Nat}(hy1:1970<=y)(hy2:y<=2199)(hyf:fy<=y)(hlm:1<=lm)(hld:1<=ld)(hld2:ld<=31)
  (hl1:y=fy->lm=fm/\ld=fd){f:Fr}{X:Hp}{v5:Value}
  (f0:f.rd 0=.func (.yield l) #[] #[])(f1:f.rd 1=.pointer (some ⟨bs,0,none⟩))(f2:f.rd 2=.pointer (some ⟨bf,0,none⟩))(f4:f.rd 4=.int .i64 y)(f5:f.rd 5=v5)(f6:f.rd 6=.pointer (some ⟨bl,0,none⟩))(f7:f.rd 7=.int .i64 m)(f8:f.rd 8=.bool b)
  (hb:b=true->lm<=m/\m<=12)(hbl:n0<=bl)(hX:n0<=X.length)(hXl:X[bl]?=some (.cells true [.int .i64 y,.int .i64 lm,.int .i64 ld]))(hXJ:J (X.take n0)){P:AX->Fr->Hp->Prop}
  (hexit:∀f' X',f'.rd 0=.func (.yield l) #[] #[]->f'.rd 1=.pointer (some ⟨bs,0,none⟩)->f'.rd 2=.pointer (some ⟨bf,0,none⟩)->f'.rd 4=.int .i64 y->f'.rd 5=v5->X.length<=X'.length->(∀i,n0<=i->i<X.length->X'[i]?=X[i]?)->J (X'.take n0)->P (.exit 2) f' X')
  (hret:∀f' X',n0<=X'.length->Q (X'.take n0)->P .ret f' X'):Post (evK E n0 (.loop lp174_1) f X) P:=by
 have hbX:=lt_of_get hXl
 refine loop_post hE.mono (fun k g W=>∃(m:Int) (b:Bool),g.rd 0=.func (.yield l) #[] #[]/\g.rd 1=.pointer (some ⟨bs,0,none⟩)/\g.rd 2=.pointer (some ⟨bf,0,none⟩)/\g.rd 4=.int .i64 y/\g.rd 5=v5/\g.rd 6=.pointer (some ⟨bl,0,none⟩)/\g.rd 7=.int .i64 m/\g.rd 8=.bool b /\
  (b=true->lm<=m/\m<=12)/\(if b then(14-m).toNat else 0)=k/\X.length<=W.length/\(∀i,n0<=i->i<X.length->W[i]?=X[i]?)/\J (W.take n0)) ?_ _ _ _ ⟨m,b,f0,f1,f2,f4,f5,f6,f7,f8,hb,rfl,Nat.le_refl _,fun _ _ _=>rfl,hXJ⟩
 rintro k g W ⟨m,b,g0,g1,g2,g4,g5,g6,g7,g8,hb,hk,wl,wo,wJ⟩;cases b with
 | false =>
  simp only[push_cast,lp174_1,g8,simprocAttr];refine hexit _ _ ?_ ?_ ?_ ?_ ?_ wl wo wJ
  all_goals first | assumption | (simp only[push_cast,g0,g1,g2,g4,g5,simprocAttr])
 | true =>
  obtain⟨m1,m2⟩:=hb rfl;have hWl:W[bl]?=some (.cells true [.int .i64 y,.int .i64 lm,.int .i64 ld]):=by rw[wo bl hbl hbX]; exact hXl
  have hn0:∀q:Prop,(n0<=W.length\/q)=True:=fun q=>by simp; omega
  have wm1:=w64 (x:=m+1);obtain⟨p1,p2,p3⟩:=D.at_ W (by omega) wJ;simp only[SD.cv] at p1
  by_cases e:lm=m
  ·have e':(lm==m)=true:=by simp[e]
   simp only[push_cast,lp174_1,g0,g1,g2,g4,g5,g6,g7,g8,hWl,hn0,e',simprocAttr];refine days_loop hE D (y:=y) (m:=m) (d0:=ld) hy1 hy2 (by omega) m2 (by simp[g0]) (by simp[g1]) (by simp[g2]) (by simp[g4]) (v5:=v5) (by simp[g5]) (v6:=.pointer (some ⟨bl,0,none⟩)) (by simp[g6]) (by simp[g7]) (v8:=.bool true) (by simp[g8]) (by simp) (by omega) (by omega) (fun d hd=>?_) (by omega) wJ ?_ ?_
   ·unfold dateGE
    by_cases hy:y=fy
    ·obtain⟨j1,j2⟩:=hl1 hy;omega
    ·omega
   ·intro f' X' q0 q1 q2 q4 q5 q6 q7 q8 ql qo qJ;obtain⟨p1',p2',p3'⟩:=D.at_ X' (by omega) qJ;simp only[SD.cv] at p1';simp only[push_cast,q1,q7,p1',wm1,simprocAttr];have h175:=c175 hE (lim:=n0) p3'.mo (D.ok.mo.wide (by omega) (by omega)) (n:=m+1) (most:=12) (by omega) (by omega);unfold PD.val at h175;refine h175.mono ?_;rintro v h' ⟨rfl,r,ok,rfl,hr⟩;simp only[push_cast,q0,q1,q2,q4,q5,q6,simprocAttr];refine⟨if ok then(14-r).toNat else 0,?_,r,ok,rfl,rfl,?_,rfl,by omega,fun i i1 i2=>by rw[qo i i1 (by omega)]; exact wo i i1 i2,qJ⟩
    ·rw[<- hk];simp only[↓reduceIte];split
     ·have:=hr (by assumption);omega
     ·omega
    ·intro hh;have:=hr hh;omega
   ·intro f' X' q1 q2;simp only[push_cast,simprocAttr];exact hret _ _ q1 q2
  ·have e':(lm==m)=false:=by simp[e]
   simp only[push_cast,lp174_1,g0,g1,g2,g4,g5,g6,g7,g8,hWl,hn0,e',simprocAttr];refine days_loop hE D (y:=y) (m:=m) (d0:=1) hy1 hy2 (by omega) m2 (by simp[g0]) (by simp[g1]) (by simp[g2]) (by simp[g4]) (v5:=v5) (by simp[g5]) (v6:=.pointer (some ⟨bl,0,none⟩)) (by simp[g6]) (by simp[g7]) (v8:=.bool true) (by simp[g8]) (by simp) (by omega) (by omega) (fun d hd=>?_) (by omega) wJ ?_ ?_
   ·unfold dateGE
    by_cases hy:y=fy
    ·obtain⟨j1,j2⟩:=hl1 hy;omega
    ·omega
   ·intro f' X' q0 q1 q2 q4 q5 q6 q7 q8 ql qo qJ;obtain⟨p1',p2',p3'⟩:=D.at_ X' (by omega) qJ;simp only[SD.cv] at p1';simp only[push_cast,q1,q7,p1',wm1,simprocAttr];have h175:=c175 hE (lim:=n0) p3'.mo (D.ok.mo.wide (by omega) (by omega)) (n:=m+1) (most:=12) (by omega) (by omega);unfold PD.val at h175;refine h175.mono ?_;rintro v h' ⟨rfl,r,ok,rfl,hr⟩;simp only[push_cast,q0,q1,q2,q4,q5,q6,simprocAttr];refine⟨if ok then(14-r).toNat else 0,?_,r,ok,rfl,rfl,?_,rfl,by omega,fun i i1 i2=>by rw[qo i i1 (by omega)]; exact wo i i1 i2,qJ⟩
    ·rw[<- hk];simp only[↓reduceIte];split
     ·have:=hr (by assumption);omega
     ·omega
    ·intro hh;have:=hr hh;omega
   ·intro f' X' q1 q2;simp only[push_cast,simprocAttr];exact hret _ _ q1 q2
theorem years_loop {n0 l bs bf:Nat}{s:SD}{fy fm fd:Int}{J Q:Hp->Prop}(D:DCtx E n0 l bs bf s fy fm fd J Q)(hfy:1970<=fy)(hfm:1<=fm)(hfm2:fm<=12)(hfd:1<=fd)(hfd2:fd<=31){y:Int}{b:Bool}{f:Fr}{X:Hp}
  (f0:f.rd 0=.func (.yield l) #[] #[])(f1:f.rd 1=.pointer (some ⟨bs,0,none⟩))(f2:f.rd 2=.pointer (some ⟨bf,0,none⟩))(f4:f.rd 4=.int .i64 y)(f5:f.rd 5=.bool b)
  (hb:b=true->fy<=y/\y<=2199)(hX:n0<=X.length)(hXJ:J (X.take n0)){P:AX->Fr->Hp->Prop}
  (hexit:∀f' X',n0<=X'.length->J (X'.take n0)->P (.exit 0) f' X')
  (hret:∀f' X',n0<=X'.length->Q (X'.take n0)->P .ret f' X'):Post (evK E n0 (.loop lp174_2) f X) P:=by
 refine loop_post hE.mono (fun k g W=>∃(y:Int) (b:Bool),g.rd 0=.func (.yield l) #[] #[]/\g.rd 1=.pointer (some ⟨bs,0,none⟩)/\g.rd 2=.pointer (some ⟨bf,0,none⟩)/\g.rd 4=.int .i64 y/\g.rd 5=.bool b /\
  (b=true->fy<=y/\y<=2199)/\(if b then(2201-y).toNat else 0)=k/\n0<=W.length/\J (W.take n0)) ?_ _ _ _ ⟨y,b,f0,f1,f2,f4,f5,hb,rfl,hX,hXJ⟩
 rintro k g W ⟨y,b,g0,g1,g2,g4,g5,hb,hk,wl,wJ⟩;cases b with
 | false =>
  simp only[push_cast,lp174_2,g5,simprocAttr];exact hexit _ _ wl wJ
 | true =>
  obtain⟨m1,m2⟩:=hb rfl;have hn0:∀q:Prop,(n0<=W.length\/q)=True:=fun q=>by simp; omega
  have wy1:=w64 (x:=y+1);obtain⟨p1,p2,p3⟩:=D.at_ W (by omega) wJ;simp only[SD.cv] at p1
  by_cases e:y=fy
  ·have e':(y==fy)=true:=by simp[e]
   simp only[push_cast,lp174_2,g0,g1,g2,g4,g5,get_old p1,get_old p2,hn0,e',simprocAttr];have h175:=c175 hE (lim:=n0) (p3.agr (Agr.app W [.cells true [.int .i64 fy,.int .i64 fm,.int .i64 fd]])).mo (D.ok.mo.wide (by omega) (by omega)) (n:=fm) (most:=12) (by omega) (by omega);unfold PD.val at h175;refine h175.mono ?_;rintro v h' ⟨rfl,r,ok,rfl,hr⟩;simp only[push_cast,g0,g1,g2,g4,g5,simprocAttr];refine months_loop hE D (y:=y) (m:=r) (b:=ok) (lm:=fm) (ld:=fd) (bl:=W.length) (by omega) (by omega) (by omega) (by omega) (by omega) (by omega) (by omega) (by simp[g0]) (by simp[g1]) (by simp[g2]) (by simp[g4]) (v5:=.bool true) (by simp[g5]) (by simp) (by simp) (by simp) hr (by omega) (by simp; omega) (by simp only[push_cast,e,simprocAttr]) (by rw[take_take_app (by omega)]; exact wJ) ?_ ?_
   ·intro f' X' q0 q1 q2 q4 q5 ql qo qJ;simp only[List.length_append,List.length_cons,List.length_nil] at ql;obtain⟨p1',p2',p3'⟩:=D.at_ X' (by omega) qJ;simp only[SD.cv] at p1';simp only[push_cast,q1,q4,p1',wy1,simprocAttr];have h175:=c175 hE (lim:=n0) p3'.yr (D.ok.yr.wide (by omega) (by omega)) (n:=y+1) (most:=2199) (by omega) (by omega);unfold PD.val at h175;refine h175.mono ?_;rintro v h' ⟨rfl,r,ok,rfl,hr⟩;simp only[push_cast,q0,q1,q2,simprocAttr];refine⟨if ok then(2201-r).toNat else 0,?_,r,ok,rfl,rfl,?_,rfl,by omega,qJ⟩
    ·rw[<- hk];simp only[↓reduceIte];split
     ·have:=hr (by assumption);omega
     ·omega
    ·intro hh;have:=hr hh;omega
   ·intro f' X' q1 q2;simp only[push_cast,simprocAttr];exact hret _ _ q1 q2
  ·have e':(y==fy)=false:=by simp[e]
   simp only[push_cast,lp174_2,g0,g1,g2,g4,g5,get_old p1,get_old p2,hn0,e',simprocAttr];have h175:=c175 hE (lim:=n0) (p3.agr (Agr.app W [.cells true [.int .i64 y,.int .i64 1,.int .i64 1]])).mo (D.ok.mo.wide (by omega) (by omega)) (n:=1) (most:=12) (by omega) (by omega);unfold PD.val at h175;refine h175.mono ?_;rintro v h' ⟨rfl,r,ok,rfl,hr⟩;simp only[push_cast,g0,g1,g2,g4,g5,simprocAttr];refine months_loop hE D (y:=y) (m:=r) (b:=ok) (lm:=1) (ld:=1) (bl:=W.length) (by omega) (by omega) (by omega) (by omega) (by omega) (by omega) (by omega) (by simp[g0]) (by simp[g1]) (by simp[g2]) (by simp[g4]) (v5:=.bool true) (by simp[g5]) (by simp) (by simp) (by simp) hr (by omega) (by simp; omega) (by simp only[push_cast,e,simprocAttr]) (by rw[take_take_app (by omega)]; exact wJ) ?_ ?_
   ·intro f' X' q0 q1 q2 q4 q5 ql qo qJ;simp only[List.length_append,List.length_cons,List.length_nil] at ql;obtain⟨p1',p2',p3'⟩:=D.at_ X' (by omega) qJ;simp only[SD.cv] at p1';simp only[push_cast,q1,q4,p1',wy1,simprocAttr];have h175:=c175 hE (lim:=n0) p3'.yr (D.ok.yr.wide (by omega) (by omega)) (n:=y+1) (most:=2199) (by omega) (by omega);unfold PD.val at h175;refine h175.mono ?_;rintro v h' ⟨rfl,r,ok,rfl,hr⟩;simp only[push_cast,q0,q1,q2,simprocAttr];refine⟨if ok then(2201-r).toNat else 0,?_,r,ok,rfl,rfl,?_,rfl,by omega,qJ⟩
    ·rw[<- hk];simp only[↓reduceIte];split
     ·have:=hr (by assumption);omega
     ·omega
    ·intro hh;have:=hr hh;omega
   ·intro f' X' q1 q2;simp only[push_cast,simprocAttr];exact hret _ _ q1 q2
theorem c174 {X:Hp}{l bs bf:Nat}{s:SD}{fy fm fd:Int}{J Q:Hp->Prop}(D:DCtx E X.length l bs bf s fy fm fd J Q)(hfy:1970<=fy)(hfy2:fy<=100000)(hfm:1<=fm)(hfm2:fm<=12)(hfd:1<=fd)(hfd2:fd<=31)(hJ:J X) :
  PostV (evI E lim (.func 174) [.func (.yield l) #[] #[],.pointer (some ⟨bs,0,none⟩),.pointer (some ⟨bf,0,none⟩)] X) fun _ X'=>J X'\/Q X':=by
 obtain⟨p1,p2,p3⟩:=D.at_ X (Nat.le_refl _) (by rw[List.take_length]; exact hJ);simp only[SD.cv] at p1;rw[hE.fn T174]; simp only[push_cast,ac174,p1,p2,simprocAttr];have h175:=c175 hE (lim:=X.length) p3.yr (D.ok.yr.wide (by omega) (by omega)) (n:=fy) (most:=2199) (by omega) (by omega);unfold PD.val at h175;refine h175.mono ?_;rintro v h' ⟨rfl,r,ok,rfl,hr⟩;simp only[push_cast,simprocAttr];refine years_loop hE D hfy hfm hfm2 hfd hfd2 (y:=r) (b:=ok) (by simp) (by simp) (by simp) (by simp) (by simp) hr (Nat.le_refl _) (by rw[List.take_length]; exact hJ) ?_ ?_
 ·intro f' X' q1 q2;simp only[push_cast,simprocAttr];exact .inl q2
 ·intro f' X' q1 q2;simp only[push_cast,simprocAttr];exact .inr q2
end
section
theorem sP_eq (y:Int):sP y=365*y+y/4-y/100+y/400:=by unfold sP; omega
theorem sP_lt {y z:Int}(h:y<z):sP y+365<=sP z:=by rw[sP_eq,sP_eq]; omega
theorem leapF_eq {y:Int}(h:1<=y):leapF y=true<->(y%4=0/\(y%100≠0\/y%400=0)):=by
 unfold leapF;rw[Int.tmod_eq_emod_of_nonneg (by omega),Int.tmod_eq_emod_of_nonneg (by omega),Int.tmod_eq_emod_of_nonneg (by omega)];simp
theorem sP_leap {y:Int}(h:1<=y)(hl:leapF y=true):sP (y-1)+366=sP y:=by
 rw[leapF_eq h] at hl;rw[sP_eq,sP_eq]; omega
theorem sP_cyc {e Y:Int}(h0:0<=Y)(h1:Y<=399):sP (e*400+Y)=e*146097+sY Y:=by unfold sP sY; omega
theorem daysP_of {n:Int}(h1:-719162<=n)(h2:n<=2932896):daysP (ofF n).1 (ofF n).2.1 (ofF n).2.2=n:=by
 obtain⟨y0,y1,r0,r1⟩:=cyc ((n+719468)%146097) (by omega) (by omega) _ rfl;unfold ofF daysP;simp only;have hn:=Int.mul_ediv_add_emod (n+719468) 146097;generalize gO ((n+719468)%146097)/365=Y at *;have e1:=sP_cyc (e:=(n+719468)/146097) y0 y1;generalize (n+719468)/146097=e at *;generalize (n+719468)%146097=o at *;generalize sY Y=q at *;generalize hr:o-q=r at *;generalize hM:(5*r+2)/153=M at *;have m0:0<=M/\M<=11:=by omega
 have e2:((M+2)%12+1+9)%12=M:=by omega
 have e3:(if(M+2)%12+1<=2 then(if(M+2)%12+1<=2 then e*400+Y+1 else e*400+Y)-1 else(if(M+2)%12+1<=2 then e*400+Y+1 else e*400+Y))=e*400+Y:=by
  split<;>omega
 rw[e2,e3,e1];omega
theorem offv {m:Int}(h:1<=m)(h2:m<=12):(m=1/\(153*((m+9)%12)+2)/5=306)\/(m=2/\(153*((m+9)%12)+2)/5=337)\/(m=3/\(153*((m+9)%12)+2)/5=0)\/(m=4/\(153*((m+9)%12)+2)/5=31)\/(m=5/\(153*((m+9)%12)+2)/5=61)\/(m=6/\(153*((m+9)%12)+2)/5=92) \/
  (m=7/\(153*((m+9)%12)+2)/5=122)\/(m=8/\(153*((m+9)%12)+2)/5=153)\/(m=9/\(153*((m+9)%12)+2)/5=184)\/(m=10/\(153*((m+9)%12)+2)/5=214)\/(m=11/\(153*((m+9)%12)+2)/5=245)\/(m=12/\(153*((m+9)%12)+2)/5=275):=by
 have:m=1\/m=2\/m=3\/m=4\/m=5\/m=6\/m=7\/m=8\/m=9\/m=10\/m=11\/m=12:=by omega
 rcases this with rfl | rfl | rfl | rfl | rfl | rfl | rfl | rfl | rfl | rfl | rfl | rfl<;>simp
theorem long_le {y m:Int}(h:1<=m)(h2:m<=12):(m=2/\leapF y=true/\longF y m<=29)\/(m=2/\longF y m<=28)\/((m=4\/m=6\/m=9\/m=11)/\longF y m<=30)\/(longF y m<=31/\(m=1\/m=3\/m=5\/m=7\/m=8\/m=10\/m=12)):=by
 unfold longF;split
 ·omega
 ·split
  ·rename_i h; simp only[h.2,and_true,true_and]; omega
  ·split
   ·omega
   ·split<;>omega
theorem days_lt {y m d y' m' d':Int}(hr:rightF y m d=true)(hm1:1<=m')(hm2:m'<=12)(hd1:1<=d')(hg:y<y'\/(y=y'/\(m<m'\/(m=m'/\d<d')))):daysP y m d<daysP y' m' d':=by
 obtain⟨a1,a2,a3,a4,a5,a6⟩:=right_in hr;simp only[rightF,Bool.and_eq_true,decide_eq_true_eq] at hr;have hl:=long_le (y:=y) a3 a4;have s1:=sP_lt (y:=y-1) (z:=y) (by omega);have s2:=sP_lt (y:=y'-1) (z:=y') (by omega);have o1:=offv a3 a4;have o2:=offv hm1 hm2
 have hleap:¬(m=2/\d=29)\/sP (y-1)+366=sP y:=by
  by_cases e:m=2/\d=29
  ·refine .inr (sP_leap a1 ?_);rcases hl with hl | hl | hl | hl<;>first | exact hl.2.1 | omega
  ·exact .inl e
 unfold daysP;generalize (153*((m+9)%12)+2)/5=D at *;generalize (153*((m'+9)%12)+2)/5=D' at *;rcases hg with hg | ⟨rfl,hg⟩
 ·have s3:=sP_lt (y:=y-1) (z:=y') (by omega)
  have s4:sP y<=sP (y'-1):=by
   by_cases e:y=y'-1
   ·rw[e]; exact Int.le_refl _
   ·have:=sP_lt (y:=y) (z:=y'-1) (by omega); omega
  have lo:sP (y'-1)+306<=sP (if m'<=2 then y'-1 else y')+D'+d'-1:=by
   rcases o2 with⟨rfl,rfl⟩ | ⟨rfl,rfl⟩ | ⟨rfl,rfl⟩ | ⟨rfl,rfl⟩ | ⟨rfl,rfl⟩ | ⟨rfl,rfl⟩ | ⟨rfl,rfl⟩ | ⟨rfl,rfl⟩ | ⟨rfl,rfl⟩ | ⟨rfl,rfl⟩ | ⟨rfl,rfl⟩ | ⟨rfl,rfl⟩<;>simp only[Int.reduceLE,↓reduceIte]<;>omega
  have hi:sP (if m<=2 then y-1 else y)+D+d-1<=sP y+305:=by
   rcases o1 with⟨rfl,rfl⟩ | ⟨rfl,rfl⟩ | ⟨rfl,rfl⟩ | ⟨rfl,rfl⟩ | ⟨rfl,rfl⟩ | ⟨rfl,rfl⟩ | ⟨rfl,rfl⟩ | ⟨rfl,rfl⟩ | ⟨rfl,rfl⟩ | ⟨rfl,rfl⟩ | ⟨rfl,rfl⟩ | ⟨rfl,rfl⟩<;>simp only[Int.reduceLE,↓reduceIte]<;>omega
  omega
 ·clear s2;rcases hg with hg | ⟨rfl,hg⟩
  ·clear hm1 hm2 a3 a4;rcases o1 with⟨rfl,rfl⟩ | ⟨rfl,rfl⟩ | ⟨rfl,rfl⟩ | ⟨rfl,rfl⟩ | ⟨rfl,rfl⟩ | ⟨rfl,rfl⟩ | ⟨rfl,rfl⟩ | ⟨rfl,rfl⟩ | ⟨rfl,rfl⟩ | ⟨rfl,rfl⟩ | ⟨rfl,rfl⟩ | ⟨rfl,rfl⟩<;>simp only[Int.reduceLE,Int.reduceEq,↓reduceIte,Int.reduceEq,not_false_eq_true,not_true_eq_false,false_and,false_or,or_false,or_true,and_true,true_or,true_and,and_false] at hl hleap ⊢ <;>
   rcases o2 with⟨rfl,rfl⟩ | ⟨rfl,rfl⟩ | ⟨rfl,rfl⟩ | ⟨rfl,rfl⟩ | ⟨rfl,rfl⟩ | ⟨rfl,rfl⟩ | ⟨rfl,rfl⟩ | ⟨rfl,rfl⟩ | ⟨rfl,rfl⟩ | ⟨rfl,rfl⟩ | ⟨rfl,rfl⟩ | ⟨rfl,rfl⟩<;>simp only[Int.reduceLE,↓reduceIte]<;>omega
  ·omega
end
section
open Tb
noncomputable def aa63:AC:=(.reg [o 8 (.zero [z,z,z]),n (.st 3 (t 8) (t 31))])
noncomputable def ba63:AC:=(.block 1 (.seq (.reg [o 32 (.build [z,z,z] []),o 9 (.zero [z,z,z]),n (.st 3 (t 9) (t 32))]) (.seq (.seq (.reg [o 33 (.ldn 3 (t 8)),o 34 (.off 0 (t 6)),o 35 (.ldn 3 (t 34)),o 36 (.eqd false true [.int .i64,.int .i64,.int .i64] (t 33) (t 35))]) (.cond (t 36) (.reg [o 37 (.off 3 (t 6)),o 38 (.ld (t 37)),o 39 (.off 4 (t 6)),o 40 (.ld (t 39)),o 41 (.off 5 (t 6)),o 42 (.ld (t 41)),o 43 (.bin .mul (t 42) (i 1000000)),o 44 (.off 6 (t 6)),o 45 (.ld (t 44)),o 46 (.bin .add (t 43) (t 45)),o 47 (.build [z,z,z] [(0,1,(t 38)),(1,1,(t 40)),(2,1,(t 46))]),n (.st 3 (t 9) (t 47))]) (.skip))) (.seq (.reg [o 49 (.ldn 9 (t 2)),o 50 (.ldn 3 (t 9)),o 51 (.call (.func 116) [(t 49),(t 50)]),o 48 (.mov (t 51)),o 52 (.ext (t 48) 0),o 53 (.ext (t 48) 1),o 10 (.zero [z,z,z]),n (.st 3 (t 10) (t 52)),o 11 (.mov (t 53))]) (.seq (.reg [o 54 (.mov (t 11))]) (.cond (t 54) (.seq (.reg [o 56 (.ldn 3 (t 8)),o 57 (.build [z,z,z,z,z,z,z] [(0,3,(t 56))]),o 58 (.call (.func 84) [(t 57)]),o 55 (.mov (t 58)),o 59 (.ext (t 55) 0),o 60 (.ext (t 55) 1),o 12 (.mov (t 59)),o 13 (.mov (t 60))]) (.seq (.reg [o 61 (.mov (t 12)),o 62 (.ixA 3 1 (t 10) (i 0)),o 63 (.ld (t 62)),o 64 (.bin .mul (t 63) (i 60)),o 65 (.ixA 3 1 (t 10) (i 1)),o 66 (.ld (t 65)),o 67 (.bin .add (t 64) (t 66)),o 68 (.bin .mul (t 67) (i 60)),o 69 (.bin .mul (t 68) (i 1000000)),o 70 (.bin .add (t 61) (t 69)),o 71 (.ixA 3 1 (t 10) (i 2)),o 72 (.ld (t 71)),o 73 (.bin .add (t 70) (t 72)),n (.st 1 (t 4) (t 73)),n (.st 1 (t 5) tt)]) (.ret))) (.skip)))))))
noncomputable def L63 (F:Fr)(st:RS):Blk:=.loop 74 F [31] rc63.1 rc63.2 aa63 ba63 st
theorem putL_one {f:Fr}{k:Nat}{v:Value}:putL f [k] [v]=f.st k v:=rfl
theorem microF_eq {y m d:Int}(h:rightF y m d=true):microF y m d 0 0 0 0=daysP y m d*86400000000:=by
 obtain⟨a1,a2,a3,a4,a5,a6⟩:=right_in h;have:=daysP_in a1 a2 a3 a4 a5 a6;unfold microF;rw[daysF_eq a1 a2 a3 a4 a5 a6];simp(disch:=omega) only[wrap64];omega
variable {E:Env}(hE:EnvT E){lim:Nat}{h:Hp}
include hE
theorem c115 (s:SD)(y m d:Int)(hlim:lim<=h.length):evI E lim (.func 115) [.agg #[.int .u8 s.days,s.yr.val,s.mo.val,s.dy.val,.bool s.en,s.hr.val,s.mi.val,s.se.val,.bool s.utc],.agg #[.int .i64 y,.int .i64 m,.int .i64 d]] h =
  some (.func (.func 174) #[] #[.pointer (some ⟨h.length,0,none⟩),.pointer (some ⟨h.length+1,0,none⟩)],h++[.cells true s.cv,.cells true [.int .i64 y,.int .i64 m,.int .i64 d]]):=by
 unfold PD.val;have:(lim<=h.length)=True:=by simp[hlim]
 rw[hE.fn T115]; simp only[push_cast,ac115,this,simprocAttr];simp[SD.cv]
theorem step63 {s:SD}(H:s.In h)(hok:s.Ok){F:Fr}(F2:F.rd 2=.pointer (some ⟨h.length,0,none⟩))(F4:F.rd 4=.pointer (some ⟨h.length+1,0,none⟩))(F5:F.rd 5=.pointer (some ⟨h.length+2,0,none⟩))(F6:F.rd 6=.pointer (some ⟨h.length+3,0,none⟩))
  {fy fm fd ch cm cs cu:Int}(hc:0<=ch/\ch<=23/\0<=cm/\cm<=59/\0<=cs/\cs<=59/\0<=cu/\cu<1000000){X:Hp}{v1 v2:Value}
  (p0:X[h.length]?=some (.cells true s.cv))(p1:X[h.length+1]?=some (.cells true [v1]))(p2:X[h.length+2]?=some (.cells true [v2]))(p3:X[h.length+3]?=some (.cells true [.int .i64 fy,.int .i64 fm,.int .i64 fd,.int .i64 ch,.int .i64 cm,.int .i64 cs,.int .i64 cu]))
  (pl:X[h.length+6]?=some (L63 F .ready))(A:Agr h X){y m d:Int}(hr:rightF y m d=true)(hy:y<=2199)(hX:h.length+7<=X.length) :
  PostV (evI E (h.length+7) (.yield (h.length+6)) [.agg #[.int .i64 y,.int .i64 m,.int .i64 d]] X) fun v X'=>X.length<=X'.length/\(∀i,h.length+7<=i->i<X.length->X'[i]?=X[i]?) /\
   ((v=.bool true/\∀i,i<X.length->X'[i]?=X[i]?)\/(v=.bool false/\∃q0 q1 q2:Int,(0<=q0/\q0<=23/\0<=q1/\q1<=59/\0<=q2/\q2<=59999999)/\((y=fy/\m=fm/\d=fd)->ch<q0\/(ch=q0/\(cm<q1\/(cm=q1/\cs*1000000+cu<=q2)))) /\
    X'[h.length+1]?=some (.cells true [.int .i64 (daysP y m d*86400000000+q0*3600000000+q1*60000000+q2)])/\X'[h.length+2]?=some (.cells true [.bool true])/\X'[h.length+6]?=some (L63 F (.over .ret))/\Agr h X')):=by
 obtain⟨a1,a2,a3,a4,a5,a6⟩:=right_in hr;have pl':=pl;unfold L63 at pl';have hn0:∀q:Prop,(h.length+7<=X.length\/q)=True:=fun q=>by simp[hX]
 refine yield_post hE.mono pl' rfl ?_;unfold aa63;simp only[push_cast,hn0,putL_one,simprocAttr];refine⟨_,turn_get (get_old pl'),?_⟩;have hl:h.length+6<X.length:=by omega
 rw[set_old hl];generalize hW:X.set (h.length+6) (Blk.loop 74 F [31] rc63.1 rc63.2 aa63 ba63 .busy)=W;have wl:W.length=X.length:=by rw[<- hW]; simp
 have wo:∀i,i≠h.length+6->W[i]?=X[i]?:=fun i hi=>by rw[<- hW]; exact List.getElem?_set_ne (by omega)
 have w0:=(wo (h.length) (by omega)).trans p0;have w1:=(wo (h.length+1) (by omega)).trans p1;have w2:=(wo (h.length+2) (by omega)).trans p2;have w3:=(wo (h.length+3) (by omega)).trans p3;have w6:W[h.length+6]?=some (Blk.loop 74 F [31] rc63.1 rc63.2 aa63 ba63 .busy):=by rw[<- hW]; exact set_get hl
 have AW:Agr h W:=by rw[<- hW]; exact A.set (by omega) _
 unfold SD.cv at w0;have wl':X.length=W.length:=wl.symm;have hn1:∀q:Prop,(h.length+7<=W.length\/q)=True:=fun q=>by simp; omega
 have hmo:microOk y m d 0 0 0 0=true:=by simp[microOk,hr]
 have wc1:=w64 (x:=cs*1000000);have wc2:=w64 (x:=cs*1000000+cu);have dp:=daysP_in a1 a2 a3 a4 a5 a6;have sw1:∀l x,(W++l).set (h.length+1) x=W.set (h.length+1) x++l:=fun l x=>set_old (by omega);have sw2:∀l x,(W.set (h.length+1) x++l)[h.length+2]?=some (.cells true [v2]):=fun l x=>by rw[get_lt (by simp; omega),set_ne (by omega)]; exact w2
 have sw3:∀l x y,(W.set (h.length+1) x++l).set (h.length+2) y=(W.set (h.length+1) x).set (h.length+2) y++l:=fun l x y=>set_old (by simp; omega)
 by_cases e:y=fy/\m=fm/\d=fd
 ·have eqd:(y==fy&&(m==fm&&d==fd))=true:=by simp[e]
  have h116:=c116 hE (lim:=h.length+7) (H.agr (AW.trans (Agr.app W [.cells true [.int .i64 y,.int .i64 m,.int .i64 d],.cells true [.int .i64 ch,.int .i64 cm,.int .i64 (cs*1000000+cu)]]))) hok (f0:=ch) (f1:=cm) (f2:=(cs*1000000+cu)) (by omega);unfold PD.val at h116;obtain⟨v,h',e116,rfl,q0,q1,q2,r,rfl,hq⟩:=h116.out;clear h116;cases r with
  | false =>
   unfold ba63;simp only[push_cast,F2,F4,F5,F6,get_old w0,get_old w3,wl',le_app,hn1,eqV,lksEq,lkEq,eqd,wc1,wc2,e116,w6,simprocAttr];refine⟨_,turn_get (get_old w6),?_⟩;rw[set_old (by omega),<- hW,List.set_set,set_same pl'];refine⟨by simp,fun i i1 i2=>get_lt (by simp at i2; exact i2),.inl fun i i2=>get_lt (by simp at i2; exact i2)⟩
  | true =>
   obtain⟨hq1,hq2⟩:=hq rfl
   have wn:IntKind.i64.wrap (IntKind.i64.wrap (daysP y m d*86400000000+IntKind.i64.wrap (IntKind.i64.wrap (IntKind.i64.wrap (IntKind.i64.wrap (q0*60)+q1)*60)*1000000))+q2)=daysP y m d*86400000000+q0*3600000000+q1*60000000+q2:=by
    simp(disch:=omega) only[wrap64];omega
   unfold ba63;simp only[push_cast,F2,F4,F5,F6,get_old w0,get_old w3,wl',le_app,hn1,eqV,lksEq,lkEq,eqd,wc1,wc2,e116,get_old w1,c84 hE,hmo,microF_eq hr,sw1,sw2,sw3,wn,simprocAttr];refine⟨_,turn_get (get_old (by rw[set_ne (by omega),set_ne (by omega)]; exact w6)),?_⟩;rw[set_old (by simp; omega)];refine⟨by simp,fun i i1 i2=>?_,.inr ⟨_,_,_,hq2,fun _=>hq1,?_,?_,?_,?_⟩⟩
   ·rw[get_lt (by simpa using i2),set_ne (by omega),set_ne (by omega),set_ne (by omega)];exact wo i (by omega)
   ·rw[get_lt (by simp; omega),set_ne (by omega),set_ne (by omega),set_get (by omega)]
   ·rw[get_lt (by simp; omega),set_ne (by omega),set_get (by simp; omega)]
   ·rw[get_lt (by simp; omega),set_get (by simp; omega)];rfl
   ·exact(((AW.set (by omega) _).set (by omega) _).set (by omega) _).trans (Agr.app _ _)
 ·have eqd:(y==fy&&(m==fm&&d==fd))=false:=by rw[Bool.eq_false_iff]; simp; omega
  have h116:=c116 hE (lim:=h.length+7) (H.agr (AW.trans (Agr.app W [.cells true [.int .i64 y,.int .i64 m,.int .i64 d],.cells true [.int .i64 0,.int .i64 0,.int .i64 0]]))) hok (f0:=0) (f1:=0) (f2:=0) (by omega);unfold PD.val at h116;obtain⟨v,h',e116,rfl,q0,q1,q2,r,rfl,hq⟩:=h116.out;clear h116;cases r with
  | false =>
   unfold ba63;simp only[push_cast,F2,F4,F5,F6,get_old w0,get_old w3,wl',le_app,hn1,eqV,lksEq,lkEq,eqd,wc1,wc2,e116,w6,simprocAttr];refine⟨_,turn_get (get_old w6),?_⟩;rw[set_old (by omega),<- hW,List.set_set,set_same pl'];refine⟨by simp,fun i i1 i2=>get_lt (by simp at i2; exact i2),.inl fun i i2=>get_lt (by simp at i2; exact i2)⟩
  | true =>
   obtain⟨hq1,hq2⟩:=hq rfl
   have wn:IntKind.i64.wrap (IntKind.i64.wrap (daysP y m d*86400000000+IntKind.i64.wrap (IntKind.i64.wrap (IntKind.i64.wrap (IntKind.i64.wrap (q0*60)+q1)*60)*1000000))+q2)=daysP y m d*86400000000+q0*3600000000+q1*60000000+q2:=by
    simp(disch:=omega) only[wrap64];omega
   unfold ba63;simp only[push_cast,F2,F4,F5,F6,get_old w0,get_old w3,wl',le_app,hn1,eqV,lksEq,lkEq,eqd,wc1,wc2,e116,get_old w1,c84 hE,hmo,microF_eq hr,sw1,sw2,sw3,wn,simprocAttr];refine⟨_,turn_get (get_old (by rw[set_ne (by omega),set_ne (by omega)]; exact w6)),?_⟩;rw[set_old (by simp; omega)];refine⟨by simp,fun i i1 i2=>?_,.inr ⟨_,_,_,hq2,fun hh=>absurd hh e,?_,?_,?_,?_⟩⟩
   ·rw[get_lt (by simpa using i2),set_ne (by omega),set_ne (by omega),set_ne (by omega)];exact wo i (by omega)
   ·rw[get_lt (by simp; omega),set_ne (by omega),set_ne (by omega),set_get (by omega)]
   ·rw[get_lt (by simp; omega),set_ne (by omega),set_get (by simp; omega)]
   ·rw[get_lt (by simp; omega),set_get (by simp; omega)];rfl
   ·exact(((AW.set (by omega) _).set (by omega) _).set (by omega) _).trans (Agr.app _ _)
end
section
open Tb
theorem clock_in (n:Int):0<=(clockF n).1/\(clockF n).1<=23/\0<=(clockF n).2.1/\(clockF n).2.1<=59/\0<=(clockF n).2.2.1/\(clockF n).2.2.1<=59/\0<=(clockF n).2.2.2/\(clockF n).2.2.2<1000000:=by
 unfold clockF; simp only; omega
theorem clock_sum (n:Int):(clockF n).1*3600000000+(clockF n).2.1*60000000+((clockF n).2.2.1*1000000+(clockF n).2.2.2)=n%86400000000:=by
 unfold clockF; simp only; omega
theorem ofF_in {n:Int}(h1:-719162<=n)(h2:n<=2932896):1<=(ofF n).2.1/\(ofF n).2.1<=12/\1<=(ofF n).2.2/\(ofF n).2.2<=31:=by
 obtain⟨y0,y1,r0,r1⟩:=cyc ((n+719468)%146097) (by omega) (by omega) _ rfl;unfold ofF; simp only; omega
theorem ofF_1970 {n:Int}(h1:0<=n)(h2:n<=2932896):1970<=(ofF n).1:=by
 have e:=daysP_of (n:=n) (by omega) h2;obtain⟨m1,m2,d1,d2⟩:=ofF_in (n:=n) (by omega) h2;refine Classical.byContradiction fun hc=>?_;have o2:=offv m1 m2;unfold daysP at e;have s1:(ofF n).1<=1969:=by omega
 have s2:sP (ofF n).1<=719162:=by rw[sP_eq]; omega
 have s3:sP ((ofF n).1-1)<=718797:=by rw[sP_eq]; omega
 split at e<;>omega
theorem cyc2 (o:Int)(h0:0<=o)(h1:o<146097)(y:Int)(hy:y=gO o/365)(h2:y<=398):o<sY (y+1):=by
 have hg:0<=gO o/\gO o<146000:=by unfold gO; omega
 obtain⟨n,rfl⟩:=Int.eq_ofNat_of_zero_le (show 0<=y by omega);have k1:=yearOk_all (n+1) (by omega);simp only[yearOk,Bool.and_eq_true,decide_eq_true_eq] at k1;refine Classical.byContradiction fun hc=>?_
 have hs:sY ((n+1:Nat):Int)<=o:=by have e:((n+1:Nat):Int)=(n:Int)+1:=by omega
                                   rw[e]; omega
 have:=gO_mono (sY ((n+1:Nat):Int)) (sY_pos _ (by omega)) (o-sY ((n+1:Nat):Int)).toNat;have e:sY ((n+1:Nat):Int)+(((o-sY ((n+1:Nat):Int)).toNat:Nat):Int)=o:=by omega
 rw[e] at this;have:=k1.1;omega
theorem ofF_right {n:Int}(h1:-719162<=n)(h2:n<=2932896)(hy1:1<=(ofF n).1)(hy2:(ofF n).1<=9999):rightF (ofF n).1 (ofF n).2.1 (ofF n).2.2=true:=by
 obtain⟨y0,y1,r0,r1⟩:=cyc ((n+719468)%146097) (by omega) (by omega) _ rfl;have c2:=cyc2 ((n+719468)%146097) (by omega) (by omega) _ rfl;simp only[rightF,Bool.and_eq_true,decide_eq_true_eq];unfold ofF at *;simp only at *;generalize hY:gO ((n+719468)%146097)/365=Y at *;generalize hE:(n+719468)/146097=e at *
 have hq:Y<=398->sY Y+365+(if leapF (e*400+Y+1)=true then 1 else 0)=sY (Y+1):=fun h=>by
  by_cases hl:leapF (e*400+Y+1)=true
  ·rw[if_pos hl];rw[leapF_eq (by omega)] at hl;unfold sY;omega
  ·rw[if_neg hl];rw[leapF_eq (by omega)] at hl;unfold sY;omega
 have hq2:Y=399->leapF (e*400+Y+1)=true:=fun h=>by
  rw[leapF_eq (by omega)]; omega
 generalize (n+719468)%146097=o at *;generalize sY (Y+1)=q1 at *;generalize sY Y=q at *;generalize hr:o-q=r at *;have hM0:0<=(5*r+2)/153:=by omega
 have hM1:(5*r+2)/153<=11:=by omega
 refine⟨by omega,?_⟩;have:(5*r+2)/153=11\/(5*r+2)/153=0\/(5*r+2)/153=1\/(5*r+2)/153=2\/(5*r+2)/153=3\/(5*r+2)/153=4\/(5*r+2)/153=5\/(5*r+2)/153=6\/(5*r+2)/153=7\/(5*r+2)/153=8\/(5*r+2)/153=9\/(5*r+2)/153=10:=by omega
 rcases this with hM | hM | hM | hM | hM | hM | hM | hM | hM | hM | hM | hM
 ·rw[hM] at hy1 hy2 ⊢;simp only[Int.reduceAdd,Int.reduceMod,Int.reduceLE,↓reduceIte,Int.reduceMul,Int.reduceDiv] at hy1 hy2 ⊢;unfold longF;rw[if_neg (by omega)]
  by_cases hl:leapF (e*400+Y+1)=true
  ·simp only[hl,and_self,↓reduceIte];omega
  ·simp only[hl,Bool.false_eq_true,and_false,↓reduceIte];rw[if_neg hl] at hq
   have:Y<=398:=by
    refine Classical.byContradiction fun hc=>hl (hq2 (by omega))
   have:=hq this;have:=c2 (by omega);omega
 all_goals
  rw[hM] at hy1 hy2 ⊢;simp only[Int.reduceAdd,Int.reduceMod,Int.reduceLE,↓reduceIte,Int.reduceMul,Int.reduceDiv] at hy1 hy2 ⊢;unfold longF;rw[if_neg (by omega)];simp only[Int.reduceEq,false_and,↓reduceIte,or_false,or_true,false_or,or_self];omega
theorem days_2199 {y m d:Int}(hr:rightF y m d=true)(hy:y<=2199):daysP y m d<=84005:=by
 have:=days_lt (y:=y) (m:=m) (d:=d) (y':=2200) (m':=1) (d':=1) hr (by omega) (by omega) (by omega) (.inl (by omega));have e:daysP 2200 1 1=84006:=by decide
 omega
theorem not_ahead {N y m d q0 q1 q2:Int}(h0:0<=N)(h1:N<253402300800000000)(hr:rightF y m d=true)(hy:y<=2199)(hg:dateGE y m d (ofF (N/86400000000)).1 (ofF (N/86400000000)).2.1 (ofF (N/86400000000)).2.2)
  (hq:0<=q0/\q0<=23/\0<=q1/\q1<=59/\0<=q2/\q2<=59999999)(hc:(y=(ofF (N/86400000000)).1/\m=(ofF (N/86400000000)).2.1/\d=(ofF (N/86400000000)).2.2)->(clockF N).1<q0\/((clockF N).1=q0/\((clockF N).2.1<q1\/((clockF N).2.1=q1/\(clockF N).2.2.1*1000000+(clockF N).2.2.2<=q2)))) :
  N<=daysP y m d*86400000000+q0*3600000000+q1*60000000+q2/\daysP y m d*86400000000+q0*3600000000+q1*60000000+q2<=7258118400000000:=by
 have e:=daysP_of (n:=N/86400000000) (by omega) (by omega);obtain⟨m1,m2,d1,d2⟩:=ofF_in (n:=N/86400000000) (by omega) (by omega);have u:=days_2199 hr hy;have ci:=clock_in N;have cs:=clock_sum N;refine⟨?_,by omega⟩
 by_cases heq:y=(ofF (N/86400000000)).1/\m=(ofF (N/86400000000)).2.1/\d=(ofF (N/86400000000)).2.2
 ·have:=hc heq;obtain⟨rfl,rfl,rfl⟩:=heq;rw[e];omega
 ·obtain⟨a1,a2,a3,a4,a5,a6⟩:=right_in hr;have:=days_lt (y:=(ofF (N/86400000000)).1) (m:=(ofF (N/86400000000)).2.1) (d:=(ofF (N/86400000000)).2.2) (y':=y) (m':=m) (d':=d) (ofF_right (by omega) (by omega) (by have:=ofF_1970 (n:=N/86400000000) (by omega) (by omega); omega) (by unfold dateGE at hg; omega)) (by omega) (by omega) (by omega) (by unfold dateGE at hg; omega);omega
variable {E:Env}(hE:EnvT E){lim:Nat}{h:Hp}
include hE
theorem take_get {X Z:Hp}{n i:Nat}(e:X.take n=Z)(hi:i<n):X[i]?=Z[i]?:=by rw[<- e,List.getElem?_take_of_lt hi]
theorem take_ext {X Z:Hp}{n:Nat}(hl:Z.length=n)(hX:n<=X.length)(hh:∀i,i<n->X[i]?=Z[i]?):X.take n=Z:=by
 refine List.ext_getElem? fun i=>?_
 by_cases hi:i<n
 ·rw[List.getElem?_take_of_lt hi]; exact hh i hi
 ·rw[List.getElem?_eq_none (by simp; omega),List.getElem?_eq_none (by omega)]
theorem rf63 {s:SD}(H:s.In h)(hok:s.Ok){N:Int}(hN0:0<=N)(hN1:N<253402300800000000){F:Fr}(F2:F.rd 2=.pointer (some ⟨h.length,0,none⟩))(F4:F.rd 4=.pointer (some ⟨h.length+1,0,none⟩))(F5:F.rd 5=.pointer (some ⟨h.length+2,0,none⟩))(F6:F.rd 6=.pointer (some ⟨h.length+3,0,none⟩))
  (F30:F.rd 30=.func (.func 174) #[] #[.pointer (some ⟨h.length+4,0,none⟩),.pointer (some ⟨h.length+5,0,none⟩)]){H1:Hp}(hl:H1.length=h.length+6){v1 v2:Value}
  (p0:H1[h.length]?=some (.cells true s.cv))(p1:H1[h.length+1]?=some (.cells true [v1]))(p2:H1[h.length+2]?=some (.cells true [v2]))(p3:H1[h.length+3]?=some (.cells true [.int .i64 (ofF (N/86400000000)).1,.int .i64 (ofF (N/86400000000)).2.1,.int .i64 (ofF (N/86400000000)).2.2,.int .i64 (clockF N).1,.int .i64 (clockF N).2.1,.int .i64 (clockF N).2.2.1,.int .i64 (clockF N).2.2.2]))
  (p4:H1[h.length+4]?=some (.cells true s.cv))(p5:H1[h.length+5]?=some (.cells true [.int .i64 (ofF (N/86400000000)).1,.int .i64 (ofF (N/86400000000)).2.1,.int .i64 (ofF (N/86400000000)).2.2]))
  (A:Agr h H1){P:AX->Fr->Hp->Prop}(hn:∀X,Agr h X->X[h.length+1]?=some (.cells true [v1])->X[h.length+2]?=some (.cells true [v2])->P .norm F X)
  (hr:∀X n,Agr h X->N<=n->n<=7258118400000000->X[h.length+1]?=some (.cells true [.int .i64 n])->X[h.length+2]?=some (.cells true [.bool true])->P .ret F X):Post (evK E lim (.rf (.tmp 30) 74 [31] rc63.1 rc63.2 aa63 ba63) F H1) P:=by
 refine rf_post hE.mono F30 ?_;rw[hl];have hX1:(H1++[L63 F .ready]).length=h.length+7:=by simp; omega
 have q6:(H1++[L63 F .ready])[h.length+6]?=some (L63 F .ready):=by rw[<- hl,get_app0]; rfl
 have hA1:Agr h (H1++[L63 F .ready]):=A.trans (Agr.app _ _)
 have D:DCtx E (H1++[L63 F .ready]).length (h.length+6) (h.length+4) (h.length+5) s (ofF (N/86400000000)).1 (ofF (N/86400000000)).2.1 (ofF (N/86400000000)).2.2 (fun Z=>Z=H1++[L63 F .ready])
   (fun Z=>Z.length=h.length+7/\∃n,N<=n/\n<=7258118400000000/\Z[h.length+1]?=some (.cells true [.int .i64 n])/\Z[h.length+2]?=some (.cells true [.bool true])/\Z[h.length+6]?=some (L63 F (.over .ret))/\Agr h Z):=by
  rw[hX1]
  have hag:∀X:Hp,X.take (h.length+7)=H1++[L63 F .ready]->Agr h X:=fun X hJ i k e=>by
   have:=lt_of_get e;rw[take_get hE hJ (by omega)];exact hA1 i k e
  refine⟨hok,fun X hl2 hJ=>⟨?_,?_,H.agr (hag X hJ)⟩,fun X y m d hl2 hJ hrt hy1 hy2 hge=>?_⟩
  ·rw[take_get hE hJ (by omega),get_lt (by omega)]; exact p4
  ·rw[take_get hE hJ (by omega),get_lt (by omega)]; exact p5
  ·refine(step63 hE H hok F2 F4 F5 F6 (fy:=(ofF (N/86400000000)).1) (fm:=(ofF (N/86400000000)).2.1) (fd:=(ofF (N/86400000000)).2.2) (clock_in N) (X:=X) (v1:=v1) (v2:=v2) ?_ ?_ ?_ ?_ ?_ (hag X hJ) hrt hy2 hl2).mono ?_
   ·rw[take_get hE hJ (by omega),get_lt (by omega)]; exact p0
   ·rw[take_get hE hJ (by omega),get_lt (by omega)]; exact p1
   ·rw[take_get hE hJ (by omega),get_lt (by omega)]; exact p2
   ·rw[take_get hE hJ (by omega),get_lt (by omega)]; exact p3
   ·rw[take_get hE hJ (by omega)]; exact q6
   ·rintro v X' ⟨s1,s2,⟨rfl,s3⟩ | ⟨rfl,q0,q1,q2,hq,hc,t1,t2,t6,tA⟩⟩
    ·refine⟨s1,s2,.inl ⟨rfl,?_⟩⟩;rw[<- hJ];exact take_ext hE (by simp; omega) (by omega) (fun i hi=>by rw[s3 i (by omega),List.getElem?_take_of_lt hi])
    ·obtain⟨n1,n2⟩:=not_ahead hN0 hN1 hrt hy2 hge hq hc;refine⟨s1,s2,.inr ⟨rfl,by simp; omega,_,n1,n2,?_,?_,?_,?_⟩⟩
     ·rw[List.getElem?_take_of_lt (by omega)]; exact t1
     ·rw[List.getElem?_take_of_lt (by omega)]; exact t2
     ·rw[List.getElem?_take_of_lt (by omega)]; exact t6
     ·intro i k e;have:=lt_of_get e;rw[List.getElem?_take_of_lt (by omega)];exact tA i k e
 have o1:=ofF_in (n:=N/86400000000) (by omega) (by omega);have o2:=ofF_1970 (n:=N/86400000000) (by omega) (by omega);have o3:=ofF_year (n:=N/86400000000) (by omega) (by omega);refine(c174 hE D (lim:=lim) o2 (by omega) o1.1 o1.2.1 o1.2.2.1 o1.2.2.2 rfl).mono ?_;rintro v X' (rfl | ⟨zl,n,n1,n2,t1,t2,t6,tA⟩)
 ·refine .inl ⟨_,_,_,_,_,_,_,q6,?_⟩;have q:(H1++[L63 F .ready]).set (h.length+6) .dead=H1++[.dead]:=by rw[<- hl,set_app0]; rfl
  rw[q];exact hn _ (A.trans (Agr.app _ _)) (get_old p1) (get_old p2)
 ·refine .inr ⟨_,_,_,_,_,_,_,_,t6,?_⟩;exact hr _ n (tA.set (by omega) _) n1 n2 (by rw[set_ne (by omega)]; exact t1) (by rw[set_ne (by omega)]; exact t2)
theorem c63 {s:SD}(H:s.In h)(hB:s.Bd)(t:Int)(t1:-9223372036854775808<=t)(t2:t<=9223372036854775807):PostV (evI E lim (.func 63) [.agg #[.int .u8 s.days,s.yr.val,s.mo.val,s.dy.val,.bool s.en,s.hr.val,s.mi.val,s.se.val,.bool s.utc],.int .i64 t] h) fun v h'=>h'=h/\∃n ok,v=.tuple #[.int .i64 n,.bool ok]/\-9223372036854775808<=n/\n<=9223372036854775807/\(ok=true->max t 0<=n/\n<=7258118400000000):=by
 by_cases hr:max t 0<253402300800000000
 ·obtain⟨r,e39,hok⟩:=c39 hE (lim:=h.length) (H.agr (Agr.app h [.cells true s.cv,.cells true [.int .i64 0],.cells true [.bool false],.cells true [.int .i64 (ofF (max t 0/86400000000)).1,.int .i64 (ofF (max t 0/86400000000)).2.1,.int .i64 (ofF (max t 0/86400000000)).2.2,.int .i64 (clockF (max t 0)).1,.int .i64 (clockF (max t 0)).2.1,.int .i64 (clockF (max t 0)).2.2.1,.int .i64 (clockF (max t 0)).2.2.2]]));unfold SD.cv PD.val at e39;unfold PD.val;cases r with
  | false =>
   rw[hE.fn T63]; simp only[push_cast,ac63,c83 hE (max t 0) (by omega) hr,e39,le_app,simprocAttr];exact⟨0,false,rfl,by omega,by omega,fun h=>by cases h⟩
  | true =>
   rw[hE.fn T63]; simp only[push_cast,ac63,c83 hE (max t 0) (by omega) hr,e39,le_app,simprocAttr];have h115:=fun y m d (X:Hp) (hX:h.length<=X.length)=>c115 hE (lim:=h.length) (h:=X) s y m d hX;unfold PD.val at h115;simp only[push_cast,h115,le_app,simprocAttr];refine rf63 hE H (hok rfl hB) (N:=max t 0) (by omega) hr (by simp) (by simp) (by simp) (by simp) (by simp) (by simp) (get_app0.trans rfl) (get_app.trans rfl) (get_app.trans rfl) (get_app.trans rfl) (get_app.trans rfl) (get_app.trans rfl) (Agr.app _ _) ?_ ?_
   ·intro X A x1 x2;have l1:=lt_of_get x1;have l2:=lt_of_get x2;have z1:∀a,(X.set (h.length+1) a)[h.length+2]?=some (.cells true [.bool false]):=fun a=>by rw[set_ne (by omega)]; exact x2
    have z2:∀a b,((X.set (h.length+1) a).set (h.length+2) b)[h.length+1]?=some a:=fun a b=>by rw[set_ne (by omega),set_get l1]
    have z3:∀a b,((X.set (h.length+1) a).set (h.length+2) b)[h.length+2]?=some b:=fun a b=>by rw[set_get (by simpa using l2)]
    simp only[push_cast,x1,x2,z1,z2,z3,simprocAttr];refine⟨take_ext hE rfl (by simp; omega) fun i hi=>?_,0,false,rfl,by omega,by omega,fun h=>by cases h⟩;rw[set_ne (by omega),set_ne (by omega),List.getElem?_eq_getElem hi];exact A i _ (List.getElem?_eq_getElem hi)
   ·intro X n A n1 n2 x1 x2;have l2:=lt_of_get x2;simp only[push_cast,x1,x2,simprocAttr];refine⟨take_ext hE rfl (by omega) fun i hi=>?_,n,true,rfl,by omega,by omega,fun _=>⟨n1,n2⟩⟩;rw[List.getElem?_eq_getElem hi];exact A i _ (List.getElem?_eq_getElem hi)
 ·unfold PD.val;rw[hE.fn T63]; simp only[push_cast,ac63,c83_out hE (max t 0) (by omega) (by omega) (by omega),le_app,simprocAttr];exact⟨0,false,rfl,by omega,by omega,fun h=>by cases h⟩
end
section
open Tb
variable {E:Env}(hE:EnvT E){lim:Nat}{h:Hp}
include hE
theorem c40 (s:SD)(Z:Option ZN)(hlim:lim<=h.length):evI E lim (.func 40) [.agg #[.int .u8 s.days,s.yr.val,s.mo.val,s.dy.val,.bool s.en,s.hr.val,s.mi.val,s.se.val,.bool s.utc],zv Z] h =
  some (zv (if s.utc then none else Z),h++[.cells true s.cv]):=by
 have:(lim<=h.length)=True:=by simp[hlim]
 unfold PD.val;cases hu:s.utc with
 | true=>rw[hE.fn T40]; simp only[push_cast,ac40,this,simprocAttr]
         simp[SD.cv,hu,zv]
 | false=>rw[hE.fn T40]; simp only[push_cast,ac40,this,simprocAttr]
          simp[SD.cv,hu]
theorem loop21 (hO:OffsOk E)(hS:SortOk E)(hN:SortNil E){s:SD}(H:s.In h)(hB:s.Bd){Z:Option ZN}(HZ:zin Z h){bs:Nat}(hbs:h[bs]?=some (.cells true s.cv)){lo hi:Int}(hlo:-93599000000<=lo/\lo<=93599000000)(hhi:-93599000000<=hi/\hi<=93599000000){p:Option Addr}(hp:zv Z=.pointer p)
  {f:Fr}{a:Int}(f1:f.rd 1=.pointer p)(f3:f.rd 3=.pointer (some ⟨bs,0,none⟩))(f6:f.rd 6=.int .i64 0)(f7:f.rd 7=.bool false)(f9:f.rd 9=.int .i64 lo)(f10:f.rd 10=.int .i64 hi)(f11:f.rd 11=.int .i64 a)(ha:0<=a)(ha2:a<=7258118400000000){P:AX->Fr->Hp->Prop}
  (hx:∀f',P (.exit 0) f' h)(hr0:∀f',f'.rd 6=.int .i64 0->f'.rd 7=.bool false->P .ret f' h)(hr1:∀f' n,a<=n->n<7258118400000000->f'.rd 6=.int .i64 n->f'.rd 7=.bool true->P .ret f' h):Post (evK E lim (.loop lp21_0) f h) P:=by
 refine loop_post hE.mono (fun k g W=>∃b:Int,g.rd 1=.pointer p/\g.rd 3=.pointer (some ⟨bs,0,none⟩)/\g.rd 6=.int .i64 0/\g.rd 7=.bool false/\g.rd 9=.int .i64 lo/\g.rd 10=.int .i64 hi/\g.rd 11=.int .i64 b/\a<=b/\b<=7258118400000000/\(7258118400000001-b).toNat=k/\W=h) ?_ _ _ _ ⟨a,f1,f3,f6,f7,f9,f10,f11,Int.le_refl _,ha2,rfl,rfl⟩;rintro k g W ⟨b,g1,g3,g6,g7,g9,g10,g11,hb1,hb2,hk,rfl⟩;have hbs':=hbs;simp only[SD.cv] at hbs'
 by_cases hlt:b<7258118400000000
 ·have hltb:decide (b<7258118400000000)=true:=by simp[hlt]
  have w1:=w64 (x:=b+lo);obtain⟨_,_,e1,rfl,n1,ok1,rfl,r1,r2,hn1⟩:=(c63 hE (lim:=lim) H hB (b+lo) (by omega) (by omega)).out;unfold PD.val at e1;cases ok1 with
  | false =>
   simp only[push_cast,lp21_0,g1,g3,g6,g7,g9,g10,g11,hbs',hlt,w1,e1,simprocAttr];refine hr0 _ ?_ ?_<;>simp only[push_cast,g6,g7,simprocAttr]
  | true =>
   obtain⟨n1a,n1b⟩:=hn1 rfl;have w2:=w64 (x:=n1-hi)
   by_cases hge:max b (n1-hi)>=7258118400000000
   ·simp only[push_cast,lp21_0,g1,g3,g6,g7,g9,g10,g11,hbs',hlt,w1,e1,w2,hge,ge_iff_le,simprocAttr];refine hr0 _ ?_ ?_<;>simp only[push_cast,g6,g7,simprocAttr]
   ·have hge':¬ 7258118400000000<=max b (n1-hi):=by omega
    generalize hat:max b (n1-hi)=at1 at *;have a1:b<=at1:=by omega
    obtain⟨_,_,e64,rfl,off,rfl,o1,o2⟩:=(c64 hE (lim:=lim) HZ at1 (by omega) (by omega)).out;obtain⟨_,_,e65,rfl,en,rfl,en1,en2,en3⟩:=(c65 hE (lim:=lim) hS hN HZ at1 (by omega) (by omega)).out;have en4:=en3 (by omega);have w3:=w64 (x:=at1+off);obtain⟨_,_,e2,rfl,n2,ok2,rfl,s1,s2,hn2⟩:=(c63 hE (lim:=lim) H hB (at1+off) (by omega) (by omega)).out;unfold PD.val at e2;rw[hp] at e64 e65;cases ok2 with
    | false =>
     simp only[push_cast,lp21_0,g1,g3,g6,g7,g9,g10,g11,hbs',hlt,w1,e1,w2,ge_iff_le,hat,hge',e64,e65,w3,e2,simprocAttr];refine⟨_,?_,en,rfl,by omega,by omega,rfl⟩;omega
    | true =>
     obtain⟨n2a,n2b⟩:=hn2 rfl;have w4:=w64 (x:=n2-off)
     by_cases hge2:en<=n2-off
     ·simp only[push_cast,lp21_0,g1,g3,g6,g7,g9,g10,g11,hbs',hlt,w1,e1,w2,ge_iff_le,hat,hge',e64,e65,w3,e2,w4,hge2,simprocAttr];refine⟨_,?_,en,rfl,by omega,by omega,rfl⟩;omega
     ·obtain⟨_,_,e43,rfl,fl,rfl,q1,q2⟩:=(c43 hE (lim:=lim) hO HZ (n2-off) (by omega) (by omega)).out;rw[hp] at e43
      by_cases hfl:fl=n2-off
      ·have hfl':(fl==n2-off)=true:=by simp[hfl]
       simp only[push_cast,lp21_0,g1,g3,g6,g7,g9,g10,g11,hbs',hlt,w1,e1,w2,ge_iff_le,hat,hge',e64,e65,w3,e2,w4,hge2,e43,hfl',simprocAttr];refine hr1 _ (n2-off) (by omega) (by omega) ?_ ?_<;>simp only[push_cast,simprocAttr]
      ·have hfl':(fl==n2-off)=false:=by simp[hfl]
       obtain⟨_,_,e652,rfl,en',rfl,en1',en2',en3'⟩:=(c65 hE (lim:=lim) hS hN HZ fl (by omega) (by omega)).out;obtain⟨_,_,e642,rfl,off',rfl,o1',o2'⟩:=(c64 hE (lim:=lim) HZ fl (by omega) (by omega)).out;rw[hp] at e652 e642;have w5:=w64 (x:=n2-off+1);have w6:=w64 (x:=en'+off');have w7:=w64 (x:=en'+off'-off);simp only[push_cast,lp21_0,g1,g3,g6,g7,g9,g10,g11,hbs',hlt,w1,e1,w2,ge_iff_le,hat,hge',e64,e65,w3,e2,w4,hge2,e43,hfl',e652,e642,w5,w6,w7,simprocAttr];refine⟨_,?_,_,rfl,?_,?_,rfl⟩<;>omega
 ·simp only[push_cast,lp21_0,g11,hlt,simprocAttr];exact hx _
theorem c21 (hO:OffsOk E)(hS:SortOk E)(hN:SortNil E){s:SD}(H:s.In h)(hB:s.Bd){Z:Option ZN}(HZ:zin Z h){u:Int}(u1:-9223372036854775808<=u)(u2:u<=9223372036854775807) :
  PostV (evI E lim (.func 21) [.agg #[.int .u8 s.days,s.yr.val,s.mo.val,s.dy.val,.bool s.en,s.hr.val,s.mi.val,s.se.val,.bool s.utc],zv Z,.int .i64 u] h) fun v h'=>h'=h/\((v=.tuple #[.int .i64 0,.bool false])\/∃n,v=.tuple #[.int .i64 n,.bool true]/\u<n/\0<=n/\n<7258118400000000):=by
 have e40:=c40 hE (lim:=h.length) (h:=h++[.cells true s.cv]) s Z (by simp)
 have hz:zin (if s.utc=true then none else Z) h:=by
  split
  ·exact fun _ h=>by cases h
  ·exact HZ
 obtain⟨v,h1,e62,b,xs,A,rfl,hb,hl,x1,x2,hx⟩:=(hO h.length (h++[.cells true s.cv,.cells true s.cv]) _ (hz.agr (Agr.app _ _))).out;obtain⟨p,hp⟩:=zv_ptr (if s.utc=true then none else Z);have hx0:=hx 0 (by omega);have hx1:=hx (xs.length-1) (by omega);have g0:=ints_get (xs:=xs) (i:=0) (by omega);have g1:=ints_get (xs:=xs) (i:=xs.length-1) (by omega);have Ah:Agr h h1:=(Agr.app h _).trans A;have hbs:h1[h.length]?=some (.cells true s.cv):=A _ _ get_app0;unfold PD.val at e40;rw[hp] at e62 e40;obtain⟨q,hq⟩:=zv_ptr Z;rw[hq] at e40;have hbs':=hbs;simp only[SD.cv] at hbs' e40 e62;have c1:((xs.length:Int)-1).toNat=xs.length-1:=by omega
 have c2:(0<=(xs.length:Int)-1)=True:=by simp; omega
 have c3:((xs.length:Int)-1<xs.length)=True:=by simp; omega
 have c4:=w64 (x:=(xs.length:Int)-1);have c5:(0<xs.length)=True:=by simp; omega
 have c6:=w64 (x:=xs.getD 0 0*1000000);have c7:=w64 (x:=xs.getD (xs.length-1) 0*1000000);unfold PD.val;rw[hq]
 by_cases hu:7258118400000000<=u
 ·rw[hE.fn T21]; simp only[push_cast,ac21,e40,List.append_assoc,e62,hl,g0,g1,c1,c2,c3,c4,c5,c6,c7,ge_iff_le,Int.ofNat_lt,Int.natCast_pos,Nat.mul_one,hu,simprocAttr];refine take_ext hE rfl Ah.le fun i hi=>?_;rw[List.getElem?_eq_getElem hi];exact Ah i _ (List.getElem?_eq_getElem hi)
 ·have c8:=w64 (x:=max u (-1)+1)
  have ht:h1.take h.length=h:=take_ext hE rfl Ah.le fun i hi=>by
   rw[List.getElem?_eq_getElem hi];exact Ah i _ (List.getElem?_eq_getElem hi)
  rw[hE.fn T21]; simp only[push_cast,ac21,e40,List.append_assoc,e62,hl,g0,g1,c1,c2,c3,c4,c5,c6,c7,ge_iff_le,Int.ofNat_lt,Int.natCast_pos,Nat.mul_one,hu,c8,simprocAttr];refine loop21 hE hO hS hN (h:=h1) (H.agr Ah) hB (hz.agr Ah) hbs (lo:=xs.getD 0 0*1000000) (hi:=xs.getD (xs.length-1) 0*1000000) (by omega) (by omega) hp (a:=max u (-1)+1) (by simp) (by simp) (by simp) (by simp) (by simp) (by simp) (by simp) (by omega) (by omega) ?_ ?_ ?_
  ·intro f';simp only[push_cast,ht,simprocAttr]
  ·intro f' f6 f7;simp only[push_cast,ht,f6,f7,simprocAttr]
  ·intro f' n n1 n2 f6 f7;simp only[push_cast,ht,f6,f7,simprocAttr];exact .inr ⟨n,rfl,by omega,by omega,n2⟩
end
end Go.Ab
