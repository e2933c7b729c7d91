/- What Go code of this program comes to on a small machine that its translation simulates (a part of the proof of a law of its timers). No condition. -/
import Derived.KernelRfl
import Derived.Test.YthbopkpamlbjoaaGreatDoorK03
set_option linter.unusedSimpArgs false
set_option linter.unusedVariables false
set_option linter.unusedSectionVars false
set_option maxHeartbeats 4000000
namespace Go.Ab
section
def sY (y:Int):Int:=365*y+y/4-y/100
def gO (o:Int):Int:=o-o/1460+o/36524-o/146096
theorem gO_step (o:Int):gO o<=gO (o+1):=by unfold gO; omega
theorem gO_mono (o:Int)(h:0<=o):∀k:Nat,gO o<=gO (o+k)
 | 0=>by simp
 | k+1=>by
  have h1:=gO_mono o h k;have h2:=gO_step (o+k);have e:o+((k+1:Nat):Int)=o+k+1:=by omega
  rw[e]; omega
def yearOk (y:Nat):Bool:=decide (365*(y:Int)<=gO (sY y))&&(y==0||decide (gO (sY y-1)<365*(y:Int)))
theorem yearOk_all:∀y,y<400->yearOk y=true:=by decide +kernel
theorem sY_pos (y:Int)(h:0<=y):0<=sY y:=by unfold sY; omega
theorem cyc (o:Int)(h0:0<=o)(h1:o<146097)(y:Int)(hy:y=gO o/365):0<=y/\y<=399/\0<=o-sY y/\o-sY y<=365:=by
 have hg:0<=gO o/\gO o<146000:=by unfold gO; omega
 have hy0:0<=y:=by omega
 have hy1:y<=399:=by omega
 obtain⟨n,rfl⟩:=Int.eq_ofNat_of_zero_le hy0;have k0:=yearOk_all n (by omega);simp only[yearOk,Bool.and_eq_true,Bool.or_eq_true,decide_eq_true_eq,beq_iff_eq] at k0
 have hlow:sY n<=o:=by
  refine Classical.byContradiction fun hc=>?_;have hc':o<sY n:=by omega
  have hn:n≠0:=by rintro rfl; simp[sY] at hc'; omega
  rcases k0.2 with hz | hz
  ·exact hn hz
  ·have:=gO_mono o h0 (sY n-1-o).toNat;have e:o+(((sY n-1-o).toNat:Nat):Int)=sY n-1:=by omega
   rw[e] at this; omega
 have hup:o-sY n<=365:=by
  by_cases hn:n=399
  ·subst hn; simp only[sY] at *; omega
  ·have k1:=yearOk_all (n+1) (by omega);simp only[yearOk,Bool.and_eq_true,decide_eq_true_eq] at k1;refine Classical.byContradiction fun hc=>?_;have hs:sY ((n+1:Nat):Int)<=o:=by unfold sY at *; omega
   have:=gO_mono (sY ((n+1:Nat):Int)) (sY_pos _ (by omega)) (o-sY ((n+1:Nat):Int)).toNat;have e:sY ((n+1:Nat):Int)+(((o-sY ((n+1:Nat):Int)).toNat:Nat):Int)=o:=by omega
   rw[e] at this;have:=k1.1;omega
 exact⟨by omega,by omega,by omega,hup⟩
end
section
theorem rd_zero {v:Value}{l:List Value}:Fr.rd (v::l) 0=v:=rfl
theorem rd_succ {v:Value}{l:List Value}{n:Nat}:Fr.rd (v::l) (n+1)=Fr.rd l n:=rfl
theorem rd_nil {n:Nat}:Fr.rd [] n=undef:=rfl
theorem rd_st (f:Fr)(a b:Nat)(v:Value):Fr.rd (Fr.st f a v) b=if a=b then v else Fr.rd f b:=by
 induction a generalizing f b with
 | zero =>
  cases f with
  | nil=>cases b<;>simp[Fr.st,Fr.rd]
  | cons x f=>cases b<;>simp[Fr.st,Fr.rd]
 | succ a ih =>
  cases f with
  | nil =>
   cases b with
   | zero=>simp[Fr.st,Fr.rd]
   | succ b=>simp only[Fr.st,rd_succ,ih]; simp[rd_nil]
  | cons x f =>
   cases b with
   | zero=>simp[Fr.st,Fr.rd]
   | succ b=>simp only[Fr.st,rd_succ,ih]; simp
def gv (w:Bool)(v:Value):Bool:=match v with
 | .bool b=>b==w
 | _=>false
theorem goes_gv {f:Fr}{t:Nat}{w:Bool}:goes f (some (t,w))=gv w (f.rd t):=rfl
theorem gv_bool {w b:Bool}:gv w (.bool b)=(b==w):=rfl
theorem gv_undef {w:Bool}:gv w undef=false:=rfl
theorem get_cons {b:Blk}{l:Hp}{n:Nat}:(b::l)[n+1]?=l[n]?:=List.getElem?_cons_succ
theorem len_cons {b:Blk}{l:Hp}:(b::l).length=l.length+1:=rfl
theorem mn2_min {k:IntKind}{x y:Int}:mn2 (.int k x) (.int k y)=some (.int k (min x y)):=by
 simp only[mn2,if_true,Option.some.injEq,Value.int.injEq,true_and];split<;>omega
theorem mx2_max {k:IntKind}{x y:Int}:mx2 (.int k x) (.int k y)=some (.int k (max x y)):=by
 simp only[mx2,if_true,Option.some.injEq,Value.int.injEq,true_and];split<;>omega
class EnvT (E:Env):Prop where
 mono:EnvMono E
 tab:E.T=envT
instance {E:Env}[h:EnvT E]:EnvMono E:=h.mono
theorem EnvT.fn {E:Env}(hE:EnvT E){g:FuncId}{fn:AFn}(h:envT g=some fn){lim:Nat}{args:List Value}{hp:Hp} :
  evI E lim (.func g) args hp=if args.length<=fn.n then retK fn.keep hp fn.res (evK E (if fn.keep then lim else hp.length) fn.ac args hp) else none:=evI_fn hE.mono (by rw[hE.tab]; exact h)
theorem wrap64 {n:Int}(h1:-9223372036854775808<=n)(h2:n<=9223372036854775807):IntKind.i64.wrap n=n:=by
 simp only[IntKind.wrap,IntKind.bits,IntKind.signed];simp;split<;>omega
theorem w64 {x:Int}(h:-9223372036854775808<=x/\x<=9223372036854775807:=by omega):IntKind.i64.wrap x=x:=wrap64 h.1 h.2
theorem wn1 {i:Nat}(h:(i:Int)<9223372036854775807:=by omega):IntKind.i64.wrap ((i:Int)+1)=((i+1:Nat):Int):=by rw[wrap64 (by omega) (by omega)]; rfl
attribute [simp] rd_st rd_zero rd_succ rd_nil
attribute [push_cast] List.set_set List.length_set Int.toNat_natCast isNil Option.isNone_some Option.isNone_none op_guard' chk_guard' guardR_true guardR_false guardR_some chkR_some pick_run' pickV_bool or_bool and_bool guard_f guard_t AOp.run evK_seq' seqK_norm seqK_exit seqK_ret evK_reg' evK_cond evK_skip evK_ret evK_exit evK_block blockK_norm blockK_ret blockK_exit condK_true condK_false condK_bool retK_norm retK_ret afterL_some runL_nil runL_cons nextL_some putR_some putR_none op_free chk_free goes_gv gv_bool gv_undef cond_true cond_false get_app get_app0 set_app set_app0 len_app app_app take_app AOp.go Fr.ev Fr.st put Option.map_some rdC rdN Value.cells List.getElem?_cons_zero List.getElem?_cons_succ abin aun Nat.zero_add resV resL ARes.get leave flat flatA flat1 sure sure1 beq_self_eq_true Bool.and_true Bool.and_self Bool.false_eq_true if_false if_true List.map_cons List.map_nil List.toList_toArray List.nil_append List.append_nil List.length_cons List.length_nil decide_true decide_false List.cons_append List.drop_succ_cons List.drop_zero List.take_succ_cons List.take_zero List.take_length Bool.true_or Bool.or_true Bool.false_or Bool.or_false Bool.true_and Bool.false_and Bool.and_false Bool.not_true Bool.not_false fillL lay List.set_cons_zero List.set_cons_succ Option.bind_some bne single wrN List.all_cons List.all_nil Nat.le_refl true_or or_true and_self and_true true_and implies_true forall_const IntKind.bits List.getElem?_toArray mini foldV mn2_min mx2_max Tb.o Tb.g Tb.n Tb.t Tb.i Tb.z Tb.tt Tb.ff rd_zero rd_succ rd_nil rd_st
end
section
theorem tm_nonneg {a b:Int}(ha:0<=a)(_:0<b):a.tdiv b=a/b/\a.tmod b=a%b:=⟨Int.tdiv_eq_ediv_of_nonneg ha,Int.tmod_eq_emod_of_nonneg ha⟩
theorem tm_neg {a b:Int}(ha:a<0):a.tdiv b=-((-a)/b)/\a.tmod b=-((-a)%b):=by
 have h1:a.tdiv b=-((-a).tdiv b):=by rw[Int.neg_tdiv]; omega
 have h2:a.tmod b=-((-a).tmod b):=by rw[Int.neg_tmod]; omega
 rw[h1,h2,Int.tdiv_eq_ediv_of_nonneg (by omega),Int.tmod_eq_emod_of_nonneg (by omega)];exact⟨rfl,rfl⟩
theorem div_floor {a b:Int}(hb:0<b):(if a.tmod b<0 then a.tdiv b-1 else a.tdiv b)=a/b/\(if a.tmod b<0 then a.tmod b+b else a.tmod b)=a%b/\-b<a.tmod b/\a.tmod b<b:=by
 by_cases ha:0<=a
 ·obtain⟨h1,h2⟩:=tm_nonneg ha hb;have:=Int.emod_nonneg a (by omega:b≠0);have h3:=Int.emod_lt_of_pos a hb;rw[h1,h2];rw[if_neg (by omega),if_neg (by omega)];exact⟨rfl,rfl,by omega,by omega⟩
 ·obtain⟨h1,h2⟩:=tm_neg (a:=a) (b:=b) (by omega);have p1:=Int.emod_nonneg (-a) (by omega:b≠0);have p2:=Int.emod_lt_of_pos (-a) hb;have p3:=Int.emod_nonneg a (by omega:b≠0);have p4:=Int.emod_lt_of_pos a hb;have e1:=Int.mul_ediv_add_emod a b;have e2:=Int.mul_ediv_add_emod (-a) b;rw[h1,h2];have key:b*(a/b+(-a)/b)+(a%b+(-a)%b)=0:=by rw[Int.mul_add]; omega
  have hq:a/b+(-a)/b=0\/a/b+(-a)/b=-1:=by
   have l1:a/b+(-a)/b<=0:=by
    apply Classical.byContradiction;intro hn;have:b*1<=b*(a/b+(-a)/b):=Int.mul_le_mul_of_nonneg_left (by omega) (by omega);omega
   have l2:-1<=a/b+(-a)/b:=by
    apply Classical.byContradiction;intro hn;have:b*(a/b+(-a)/b)<=b*(-2):=Int.mul_le_mul_of_nonneg_left (by omega) (by omega);omega
   omega
  rcases hq with hq | hq
  ·rw[hq] at key;rw[if_neg (by omega),if_neg (by omega)];exact⟨by omega,by omega,by omega,by omega⟩
  ·rw[hq] at key;have:¬ ((-a)%b=0):=by intro e; omega
   rw[if_pos (by omega),if_pos (by omega)];exact⟨by omega,by omega,by omega,by omega⟩
theorem tdiv_in {a b:Int}(ha:-9223372036854775808<=a)(ha2:a<=9223372036854775807)(hb:1<b):-9223372036854775807<=a.tdiv b/\a.tdiv b<=9223372036854775807:=by
 by_cases h:0<=a
 ·obtain⟨h1,-⟩:=tm_nonneg (b:=b) h (by omega);have p:=Int.ediv_le_self b h;have q:=Int.ediv_nonneg h (by omega:0<=b);omega
 ·obtain⟨h1,-⟩:=tm_neg (a:=a) (b:=b) (by omega);have q:=Int.ediv_nonneg (by omega:0<=-a) (by omega:0<=b);have p:(-a)/b<=(-a)/1\/True:=Or.inr trivial;have r:(-a)/b < -a:=Int.ediv_lt_self_of_pos_of_ne_one (by omega) (by omega);omega
variable {E:Env}(hE:EnvT E){lim:Nat}{h:Hp}
include hE
def leapF (y:Int):Bool:=y.tmod 4==0&&(y.tmod 100 != 0||y.tmod 400==0)
theorem c148 (y:Int):evI E lim (.func 148) [.int .i64 y] h=some (.bool (leapF y),h):=by
 rw[hE.fn T148]; simp +contextual only[push_cast,ac148,simprocAttr];rfl
def longF (y m:Int):Int:=if y<1\/9999<y\/m<1\/12<m then 0 else if m=2/\leapF y=true then 29 else if m=2 then 28 else if m=4\/m=6\/m=9\/m=11 then 30 else 31
theorem c86 (y m:Int):evI E lim (.func 86) [.int .i64 y,.int .i64 m] h=some (.int .i64 (longF y m),h):=by
 rw[hE.fn T86]; simp +contextual only[push_cast,ac86,c148 hE,simprocAttr];split
 ·rename_i h1;simp +contextual only[push_cast,simprocAttr];simp only[Bool.or_eq_true,decide_eq_true_eq] at h1;unfold longF;rw[if_pos (by omega)]
 ·rename_i h1;simp only[Bool.or_eq_true,decide_eq_true_eq,not_or] at h1;have hw:=w64 (x:=m-1);simp +contextual only[push_cast,c148 hE,hw,simprocAttr];split
  ·rename_i h2;simp +contextual only[push_cast,c148 hE,hw,simprocAttr];simp only[Bool.and_eq_true,beq_iff_eq] at h2;unfold longF;rw[if_neg (by omega),if_pos h2]
  ·rename_i h2;simp +contextual only[push_cast,c148 hE,hw,simprocAttr];simp only[Bool.and_eq_true,beq_iff_eq] at h2;have hc:¬ (y<1\/9999<y\/m<1\/12<m):=by omega
   unfold longF;rw[if_neg hc,if_neg h2];clear hw;obtain rfl | rfl | rfl | rfl | rfl | rfl | rfl | rfl | rfl | rfl | rfl | rfl:m=1\/m=2\/m=3\/m=4\/m=5\/m=6\/m=7\/m=8\/m=9\/m=10\/m=11\/m=12:=by omega
   all_goals
    simp +contextual only[push_cast,Int.reduceSub,simprocAttr]
    try rfl
def behindF (m:Int):Int:=IntKind.i64.wrap ((IntKind.i64.wrap (IntKind.i64.wrap (153*(IntKind.i64.wrap (m+9)).tmod 12)+2)).tdiv 5)
theorem c211 (m:Int):evI E lim (.func 211) [.int .i64 m] h=some (.int .i64 (behindF m),h):=by
 rw[hE.fn T211]; simp +contextual only[push_cast,ac211,simprocAttr];rfl
def rightF (y m d:Int):Bool:=decide (d>=1)&&decide (d<=longF y m)
theorem c146 (y m d:Int):evI E lim (.func 146) [.agg #[.int .i64 y,.int .i64 m,.int .i64 d]] h=some (.bool (rightF y m d),h):=by
 rw[hE.fn T146]; simp +contextual only[push_cast,ac146,c86 hE,simprocAttr];rfl
def daysF (y m d:Int):Int :=
 let y:=if m<=2 then IntKind.i64.wrap (y-1) else y
 IntKind.i64.wrap (IntKind.i64.wrap (IntKind.i64.wrap (IntKind.i64.wrap (IntKind.i64.wrap (IntKind.i64.wrap (IntKind.i64.wrap (y.tdiv 400)*146097)+IntKind.i64.wrap (IntKind.i64.wrap (IntKind.i64.wrap (y.tmod 400*365)+IntKind.i64.wrap ((y.tmod 400).tdiv 4))-IntKind.i64.wrap ((y.tmod 400).tdiv 100)))+behindF m)+d)-1)-719468)
theorem c147 (y m d:Int):evI E lim (.func 147) [.agg #[.int .i64 y,.int .i64 m,.int .i64 d]] h=some (.int .i64 (daysF y m d),h):=by
 rw[hE.fn T147]; simp +contextual only[push_cast,ac147,c211 hE,simprocAttr]
 by_cases hm:m<=2
 ·simp +contextual only[push_cast,c211 hE,hm,simprocAttr];simp only[daysF,if_pos hm]
 ·simp +contextual only[push_cast,c211 hE,hm,simprocAttr];simp only[daysF,if_neg hm]
theorem c145 (y m d:Int):evI E lim (.func 145) [.agg #[.int .i64 y,.int .i64 m,.int .i64 d]] h=some (.tuple #[.int .i64 (if rightF y m d=true then daysF y m d else 0),.int .i64 (if rightF y m d=true then 0 else 30)],h):=by
 rw[hE.fn T145]; simp +contextual only[push_cast,ac145,c146 hE,c147 hE,simprocAttr];cases hr:rightF y m d
 ·simp +contextual only[push_cast,c146 hE,c147 hE,hr,simprocAttr]
  try rfl
 ·simp +contextual only[push_cast,c146 hE,c147 hE,hr,simprocAttr]
  try rfl
def minusF (a:Int):Int:=if a<0 then 1 else 0
theorem c210 (a:Int)(h1:-9223372036854775808<=a)(h2:a<=9223372036854775807):evI E lim (.func 210) [.int .i64 a] h=some (.int .u64 (minusF a),h):=by
 have e:(IntKind.u64.wrap a).fdiv (2 ^ min 63 64)=minusF a:=by
  simp only[IntKind.wrap,IntKind.bits,IntKind.signed,minusF];simp only[Int.fdiv_eq_ediv_of_nonneg _ (by decide:(0:Int)<=2 ^ min 63 64)];simp;split<;>omega
 rw[hE.fn T210]; simp +contextual only[push_cast,ac210,e,simprocAttr]
theorem c143 (a b:Int)(ha:-9223372036854775808<=a)(ha2:a<=9223372036854775807)(hb:1<b)(hb2:b<=9223372036854775807):evI E lim (.func 143) [.int .i64 a,.int .i64 b] h=some (.tuple #[.int .i64 (a/b),.int .i64 (a%b),.bool true],h):=by
 have e1:(b==0)=false:=by simpa using(by omega:b≠0)
 have e2:(b==-1)=false:=by simpa using(by omega:b≠-1)
 have e3:(b=0)=False:=by simpa using(by omega:b≠0)
 obtain⟨d1,d2,d3,d4⟩:=div_floor (a:=a) (b:=b) (by omega);obtain⟨t1,t2⟩:=tdiv_in ha ha2 hb;have hw:=w64 (x:=a.tdiv b);have hmb:minusF b=0:=by unfold minusF; rw[if_neg (by omega)]
 by_cases hn:a.tmod b<0
 ·have g1:(a.tmod b==0)=false:=by simpa using(by omega:a.tmod b≠0)
  have hma:minusF (a.tmod b)=1:=by unfold minusF; rw[if_pos hn]
  rw[if_pos hn] at d1 d2;have w1:IntKind.i64.wrap (a.tdiv b-1)=a/b:=by rw[d1]; exact wrap64 (by omega) (by omega)
  have w2:IntKind.i64.wrap (a.tmod b+b)=a%b:=by rw[d2]; exact wrap64 (by omega) (by omega)
  rw[hE.fn T143]; simp +contextual only[push_cast,ac143,c210 hE (a.tmod b) (by omega) (by omega),c210 hE b (by omega) (by omega),e1,e2,e3,hw,hma,hmb,g1,w1,w2,simprocAttr]
 ·have hma:minusF (a.tmod b)=0:=by unfold minusF; rw[if_neg hn]
  rw[if_neg hn] at d1 d2;rw[<- d1,<- d2];rw[hE.fn T143]; simp +contextual only[push_cast,ac143,c210 hE (a.tmod b) (by omega) (by omega),c210 hE b (by omega) (by omega),e1,e2,e3,hw,hma,hmb,simprocAttr]
theorem c117 (a b:Int)(ha:-9223372036854775808<=a)(ha2:a<=9223372036854775807)(hb:1<b)(hb2:b<=9223372036854775807):evI E lim (.func 117) [.int .i64 a,.int .i64 b] h=some (.int .i64 (a/b),h):=by
 have e3:(b=0)=False:=by simpa using(by omega:b≠0)
 obtain⟨d1,d2,d3,d4⟩:=div_floor (a:=a) (b:=b) (by omega);obtain⟨t1,t2⟩:=tdiv_in ha ha2 hb;have hw:=w64 (x:=a.tdiv b)
 by_cases hn:a.tmod b<0
 ·rw[if_pos hn] at d1;have w1:IntKind.i64.wrap (a.tdiv b-1)=a/b:=by rw[d1]; exact wrap64 (by omega) (by omega)
  rw[hE.fn T117]; simp +contextual only[push_cast,ac117,e3,hw,w1,hn,simprocAttr]
 ·rw[if_neg hn] at d1;rw[<- d1];rw[hE.fn T117]; simp +contextual only[push_cast,ac117,e3,hw,hn,simprocAttr]
end
section
variable {E:Env}(hE:EnvT E){lim:Nat}{h:Hp}
include hE
def microOk (y m d H M S u:Int):Bool:=rightF y m d&&decide (0<=H/\0<=M/\0<=S/\0<=u/\H<=23/\M<=59/\S<=59/\u<1000000)
def microF (y m d H M S u:Int):Int:=IntKind.i64.wrap (IntKind.i64.wrap (IntKind.i64.wrap (daysF y m d*86400000000)+IntKind.i64.wrap (IntKind.i64.wrap (IntKind.i64.wrap (IntKind.i64.wrap (IntKind.i64.wrap (H*60)+M)*60)+S)*1000000))+u)
theorem c84 (y m d H M S u:Int):evI E lim (.func 84) [.agg #[.int .i64 y,.int .i64 m,.int .i64 d,.int .i64 H,.int .i64 M,.int .i64 S,.int .i64 u]] h =
  some (.tuple #[.int .i64 (if microOk y m d H M S u=true then microF y m d H M S u else 0),.int .i64 (if microOk y m d H M S u=true then 0 else 30)],h):=by
 cases hr:rightF y m d with
 | false =>
  have:microOk y m d H M S u=false:=by simp[microOk,hr]
  rw[hE.fn T84]; simp +contextual only[push_cast,ac84,c145 hE,hr,this,simprocAttr]
 | true =>
  rw[hE.fn T84]; simp +contextual only[push_cast,ac84,c145 hE,hr,simprocAttr];split
  ·rename_i hc
   have:microOk y m d H M S u=false:=by
    simp only[Bool.or_eq_true,decide_eq_true_eq] at hc;simp only[microOk,hr,Bool.true_and,decide_eq_false_iff_not];omega
   simp +contextual only[push_cast,this,simprocAttr]
  ·rename_i hc
   have:microOk y m d H M S u=true:=by
    simp only[Bool.or_eq_true,decide_eq_true_eq] at hc;simp only[microOk,hr,Bool.true_and,decide_eq_true_eq];omega
   simp +contextual only[push_cast,this,simprocAttr];rfl
def ofF (n:Int):Int×Int×Int :=
 let n:=n+719468
 let o:=n%146097
 let y:=gO o/365
 let r:=o-sY y
 let m:=(5*r+2)/153
 let mm:=(m+2)%12+1
 let yy:=n/146097*400+y
 (if mm<=2 then yy+1 else yy,mm,r-(153*m+2)/5+1)
theorem c144 (n:Int)(h1:-719162<=n)(h2:n<=2932896):evI E lim (.func 144) [.int .i64 n] h=some (.tuple #[.agg #[.int .i64 (ofF n).1,.int .i64 (ofF n).2.1,.int .i64 (ofF n).2.2],.int .i64 0],h):=by
 have e1:daysF 1 1 1=-719162:=by decide +kernel
 have e2:daysF 9999 12 31=2932896:=by decide +kernel
 have e3:(n < -719162)=False:=by simp; omega
 have e4:(n>2932896)=False:=by simp; omega
 obtain⟨o,ho⟩:∃o,(n+719468)%146097=o:=⟨_,rfl⟩;obtain⟨y,hy⟩:∃y,(o-o/1460+o/36524-o/146096)/365=y:=⟨_,rfl⟩;obtain⟨y0,y1,r0,r1⟩:=cyc o (by omega) (by omega) y (by rw[<- hy]; rfl);simp only[sY] at r0 r1;obtain⟨r,hr⟩:∃r,o-(365*y+y/4-y/100)=r:=⟨_,rfl⟩;rw[hr] at r0 r1;obtain⟨m,hm⟩:∃m,(5*r+2)/153=m:=⟨_,rfl⟩
 have hof:ofF n=(if(m+2)%12+1<=2 then(n+719468)/146097*400+y+1 else(n+719468)/146097*400+y,(m+2)%12+1,r-(153*m+2)/5+1):=by
  simp only[ofF,gO,sY,ho,hy,hr,hm]
 rw[hof]
 by_cases hmm:(m+2)%12+1<=2
 ·rw[hE.fn T144]; simp +contextual (disch:=omega) only[push_cast,ac144,c147 hE,e1,e2,e3,e4,ho,hy,hr,hm,hmm,wrap64,Int.tdiv_eq_ediv_of_nonneg,Int.tmod_eq_emod_of_nonneg,simprocAttr]
 ·rw[hE.fn T144]; simp +contextual (disch:=omega) only[push_cast,ac144,c147 hE,e1,e2,e3,e4,ho,hy,hr,hm,hmm,wrap64,Int.tdiv_eq_ediv_of_nonneg,Int.tmod_eq_emod_of_nonneg,simprocAttr]
theorem c144_lo (n:Int)(h1:n < -719162):evI E lim (.func 144) [.int .i64 n] h=some (.tuple #[.agg #[.int .i64 0,.int .i64 0,.int .i64 0],.int .i64 6],h):=by
 have e1:daysF 1 1 1=-719162:=by decide +kernel
 rw[hE.fn T144]; simp +contextual only[push_cast,ac144,c147 hE,e1,h1,simprocAttr]
theorem c144_hi (n:Int)(h1:2932896<n):evI E lim (.func 144) [.int .i64 n] h=some (.tuple #[.agg #[.int .i64 0,.int .i64 0,.int .i64 0],.int .i64 6],h):=by
 have e1:daysF 1 1 1=-719162:=by decide +kernel
 have e2:daysF 9999 12 31=2932896:=by decide +kernel
 have e3:(n < -719162)=False:=by simp; omega
 rw[hE.fn T144]; simp +contextual only[push_cast,ac144,c147 hE,e1,e2,e3,gt_iff_lt,h1,simprocAttr]
def clockF (n:Int):Int×Int×Int×Int :=
 let s:=n%86400000000/1000000
 (s/3600,s/60%60,s%60,n%86400000000%1000000)
theorem c83 (n:Int)(h1:-62135596800000000<=n)(h2:n<253402300800000000):evI E lim (.func 83) [.int .i64 n] h =
  some (.tuple #[.agg #[.int .i64 (ofF (n/86400000000)).1,.int .i64 (ofF (n/86400000000)).2.1,.int .i64 (ofF (n/86400000000)).2.2,.int .i64 (clockF n).1,.int .i64 (clockF n).2.1,.int .i64 (clockF n).2.2.1,.int .i64 (clockF n).2.2.2],.int .i64 0],h):=by
 rw[hE.fn T83]; simp +contextual (disch:=omega) only[push_cast,ac83,c143 hE n 86400000000 (by omega) (by omega) (by omega) (by omega),c144 hE (n/86400000000) (by omega) (by omega),wrap64,Int.tdiv_eq_ediv_of_nonneg,Int.tmod_eq_emod_of_nonneg,simprocAttr];rfl
theorem c83_out (n:Int)(h0:-9223372036854775808<=n)(h3:n<=9223372036854775807)(h1:n < -62135596800000000\/253402300800000000<=n):evI E lim (.func 83) [.int .i64 n] h =
  some (.tuple #[.agg #[.int .i64 0,.int .i64 0,.int .i64 0,.int .i64 0,.int .i64 0,.int .i64 0,.int .i64 0],.int .i64 6],h):=by
 rcases h1 with h1 | h1
 ·rw[hE.fn T83]; simp +contextual (disch:=omega) only[push_cast,ac83,c143 hE n 86400000000 (by omega) (by omega) (by omega) (by omega),c144_lo hE (n/86400000000) (by omega),wrap64,Int.tdiv_eq_ediv_of_nonneg,Int.tmod_eq_emod_of_nonneg,simprocAttr]
 ·rw[hE.fn T83]; simp +contextual (disch:=omega) only[push_cast,ac83,c143 hE n 86400000000 (by omega) (by omega) (by omega) (by omega),c144_hi hE (n/86400000000) (by omega),wrap64,Int.tdiv_eq_ediv_of_nonneg,Int.tmod_eq_emod_of_nonneg,simprocAttr]
omit hE in
theorem right_in {y m d:Int} (hr:rightF y m d=true):1<=y/\y<=9999/\1<=m/\m<=12/\1<=d/\d<=31:=by
 simp only[rightF,Bool.and_eq_true,decide_eq_true_eq] at hr;unfold longF at hr
 repeat' split at hr
 all_goals omega
end
section
def sP (y:Int):Int:=y/400*146097+(y%400*365+y%400/4-y%400/100)
def daysP (y m d:Int):Int:=sP (if m<=2 then y-1 else y)+(153*((m+9)%12)+2)/5+d-1-719468
theorem daysF_eq {y m d:Int}(h1:1<=y)(h2:y<=9999)(h3:1<=m)(h4:m<=12)(h5:1<=d)(h6:d<=31):daysF y m d=daysP y m d:=by
 unfold daysF behindF daysP sP
 by_cases hm:m<=2
 ·simp(disch:=omega) only[if_pos hm,wrap64,Int.tdiv_eq_ediv_of_nonneg,Int.tmod_eq_emod_of_nonneg]
 ·simp(disch:=omega) only[if_neg hm,wrap64,Int.tdiv_eq_ediv_of_nonneg,Int.tmod_eq_emod_of_nonneg]
theorem daysP_in {y m d:Int}(h1:1<=y)(h2:y<=9999)(h3:1<=m)(h4:m<=12)(h5:1<=d)(h6:d<=31):-719900<=daysP y m d/\daysP y m d<=2933300:=by
 unfold daysP sP;split<;>omega
variable {E:Env}(hE:EnvT E){lim:Nat}{h:Hp}
include hE
def weekdayF (y m d:Int):Int:=if rightF y m d=true then(daysF y m d+3)%7+1 else 0
theorem c85 (y m d:Int):evI E lim (.func 85) [.agg #[.int .i64 y,.int .i64 m,.int .i64 d]] h=some (.int .i64 (weekdayF y m d),h):=by
 cases hr:rightF y m d with
 | false =>
  have:weekdayF y m d=0:=by simp[weekdayF,hr]
  rw[hE.fn T85]; simp +contextual only[push_cast,ac85,c146 hE,hr,this,simprocAttr]
 | true =>
  obtain⟨a1,a2,a3,a4,a5,a6⟩:=right_in hr;have e:=daysF_eq a1 a2 a3 a4 a5 a6;have⟨b1,b2⟩:=daysP_in a1 a2 a3 a4 a5 a6;rw[<- e] at b1 b2;have:weekdayF y m d=(daysF y m d+3)%7+1:=by simp[weekdayF,hr]
  rw[this];rw[hE.fn T85]; simp +contextual (disch:=omega) only[push_cast,ac85,c146 hE,hr,c147 hE,c143 hE (daysF y m d+3) 7 (by omega) (by omega) (by omega) (by omega),wrap64,Int.tdiv_eq_ediv_of_nonneg,Int.tmod_eq_emod_of_nonneg,simprocAttr]
theorem c82 (a b:Int)(ha:-9223372036854775808<=a)(ha2:a<=9223372036854775807)(hb:1<b)(hb2:b<=9223372036854775807):evI E lim (.func 82) [.int .i64 a,.int .i64 b] h=some (.int .i64 (a/b),h):=by
 have e3:(b=0)=False:=by simpa using(by omega:b≠0)
 obtain⟨d1,d2,d3,d4⟩:=div_floor (a:=a) (b:=b) (by omega);obtain⟨t1,t2⟩:=tdiv_in ha ha2 hb;have hw:=w64 (x:=a.tdiv b)
 by_cases hn:a.tmod b<0
 ·rw[if_pos hn] at d1;have w1:IntKind.i64.wrap (a.tdiv b-1)=a/b:=by rw[d1]; exact wrap64 (by omega) (by omega)
  rw[hE.fn T82]; simp +contextual only[push_cast,ac82,e3,hw,w1,hn,simprocAttr]
 ·rw[if_neg hn] at d1;rw[<- d1];rw[hE.fn T82]; simp +contextual only[push_cast,ac82,e3,hw,hn,simprocAttr]
theorem c246 (a:Int)(b:Bool):evI E lim (.func 246) [.int .i64 a,.bool b] h=some (.tuple #[.int .i64 (if b=true then a else 0),.bool b],h):=by
 cases b
 ·rw[hE.fn T246]; simp +contextual only[push_cast,ac246,simprocAttr]
 ·rw[hE.fn T246]; simp +contextual only[push_cast,ac246,simprocAttr]
def fits (n:Int):Bool:=decide (-9223372036854775808<=n/\n<=9223372036854775807)
theorem c183 (a b:Int)(ha:-9223372036854775808<=a)(ha2:a<=9223372036854775807)(hb:-9223372036854775808<=b)(hb2:b<=9223372036854775807) :
  evI E lim (.func 183) [.int .i64 a,.int .i64 b] h=some (.tuple #[.int .i64 (if fits (a+b)=true then a+b else 0),.bool (fits (a+b))],h):=by
 have hs:-9223372036854775808<=IntKind.i64.wrap (a+b)/\IntKind.i64.wrap (a+b)<=9223372036854775807:=by
  simp only[IntKind.wrap,IntKind.bits,IntKind.signed];simp;split<;>omega
 have key:(minusF a != minusF b||minusF (IntKind.i64.wrap (a+b))==minusF a)=fits (a+b):=by
  unfold fits minusF;simp only[IntKind.wrap,IntKind.bits,IntKind.signed];rw[Bool.eq_iff_iff];simp only[Bool.or_eq_true,bne_iff_ne,beq_iff_eq,decide_eq_true_eq];simp
  repeat' split
  all_goals omega
 simp only[bne] at key;rw[hE.fn T183]; simp +contextual only[push_cast,ac183,c210 hE a ha ha2,c210 hE b hb hb2,c210 hE (IntKind.i64.wrap (a+b)) hs.1 hs.2,c246 hE,key,simprocAttr];cases hf:fits (a+b) with
 | false=>rfl
 | true =>
  simp only[fits,decide_eq_true_eq] at hf;rw[wrap64 hf.1 hf.2]
theorem c61 (a s:Int):evI E lim (.func 61) [.int .i64 a,.int .i64 s] h=some (.int .i64 (if s<0 then a else min a s),h):=by
 by_cases hs:s<0
 ·rw[hE.fn T61]; simp +contextual only[push_cast,ac61,hs,simprocAttr]
 ·rw[hE.fn T61]; simp +contextual only[push_cast,ac61,hs,simprocAttr]
theorem c241 (a:Int):evI E lim (.func 241) [.int .i64 a] h=some (.bool false,h):=by
 rw[hE.fn T241]; simp +contextual only[push_cast,ac241,bne_self_eq_false,simprocAttr]
def cmpF (a b:Int):Int:=if a<b then -1 else if a>b then 1 else 0
theorem c169 (a b:Int):evI E lim (.func 169) [.int .i64 a,.int .i64 b] h=some (.int .i64 (cmpF a b),h):=by
 by_cases h1:a<b
 ·have:cmpF a b=-1:=by simp[cmpF,h1]
  rw[hE.fn T169]; simp +contextual only[push_cast,ac169,c241 hE,h1,this,simprocAttr]
 ·by_cases h2:a>b
  ·have:cmpF a b=1:=by simp[cmpF,h1,h2]
   rw[hE.fn T169]; simp +contextual only[push_cast,ac169,c241 hE,h1,h2,this,simprocAttr]
  ·have:cmpF a b=0:=by simp[cmpF,h1,h2]
   rw[hE.fn T169]; simp +contextual only[push_cast,ac169,c241 hE,h1,h2,this,simprocAttr]
omit hE in
theorem u64neg {n:Int}:(IntKind.u64.wrap n<0)=False:=by
 simp only[IntKind.wrap,IntKind.bits,IntKind.signed];simp;omega
def partOk (l m:Int)(f t s:Int):Bool:=decide (f>=l)&&decide (t>=f)&&decide (t<=m)&&decide (s>=0)&&(decide (s>0)||t==f)
theorem c80 (l m u d:Int)(p:Value)(f t s:Int)(hp:flat1 p=true\/True):evI E lim (.func 80) [.agg #[.int .i64 l,.int .i64 m,.int .i64 u,.int .i64 d,p],.agg #[.int .i64 f,.int .i64 t,.int .i64 s]] h=some (.bool (partOk l m f t s),h):=by
 rw[hE.fn T80]; simp +contextual only[push_cast,ac80,simprocAttr];rfl
theorem c105 (l m u d:Int)(p:Value):evI E lim (.func 105) [.agg #[.int .i64 l,.int .i64 m,.int .i64 u,.int .i64 d,p]] h=some (.agg #[.int .i64 l,.int .i64 m,.int .i64 u],h):=by
 rw[hE.fn T105]; simp +contextual only[push_cast,ac105,simprocAttr]
theorem c97 (c:Int):evI E lim (.func 97) [.int .i32 c] h=some (.bool (c==32),h):=by
 rw[hE.fn T97]; simp +contextual only[push_cast,ac97,simprocAttr]
theorem c272 (c:Int):evI E lim (.func 272) [.int .i32 c] h=some (.bool (decide (c>=48)&&decide (c<=57)),h):=by
 rw[hE.fn T272]; simp +contextual only[push_cast,ac272,simprocAttr]
end
section
section
variable {h h1 l l':Hp}{b c n k:Nat}{x y:Blk}
theorem set_get (hlt:b<h.length):(h.set b x)[b]?=some x:=by simp[hlt]
theorem set_ne (hne:b≠c):(h.set b x)[c]?=h[c]?:=List.getElem?_set_ne hne
theorem set_old (hlt:b<h.length):(h++l).set b x=h.set b x++l:=List.set_append_left _ _ hlt
theorem get_lt (hlt:b<h.length):(h++l)[b]?=h[b]?:=List.getElem?_append_left hlt
theorem get_appC (e:h1.length=n):(h1++l)[n+k]?=l[k]?:=by rw[<- e]; exact get_app
theorem get_appC0 (e:h1.length=n):(h1++l)[n]?=l[0]?:=by rw[<- e]; exact get_app0
theorem set_appC (e:h1.length=n):(h1++l).set (n+k) x=h1++l.set k x:=by rw[<- e]; exact set_app
theorem set_appC0 (e:h1.length=n):(h1++l).set n x=h1++l.set 0 x:=by rw[<- e]; exact set_app0
theorem take_appC (e:h1.length=n):(h1++l).take n=h1:=by rw[<- e]; exact take_app
theorem take_set (h:Hp)(b:Nat)(x:Blk):(h.set b x).take h.length=h.set b x:=by
 rw[show h.length=(h.set b x).length by simp,List.take_length]
theorem lt_of_get {k:Blk}(e:h[b]?=some k):b<h.length:=(List.getElem?_eq_some_iff.1 e).1
theorem set_same {k:Blk}(e:h[b]?=some k):h.set b k=h:=by
 obtain⟨h1,h2⟩:=List.getElem?_eq_some_iff.1 e;rw[<- h2]; simp
end
def Post (r:Option (AX×Fr×Hp))(P:AX->Fr->Hp->Prop):Prop:=match r with
 | some (x,f,h)=>P x f h
 | none=>False
def PostL (r:Option (Fr×Hp))(P:Fr->Hp->Prop):Prop:=match r with
 | some (f,h)=>P f h
 | none=>False
def PostV (r:Option (Value×Hp))(P:Value->Hp->Prop):Prop:=match r with
 | some (v,h)=>P v h
 | none=>False
theorem post_some {x:AX}{f:Fr}{h:Hp}{P:AX->Fr->Hp->Prop}:Post (some (x,f,h)) P=P x f h:=rfl
theorem postL_some {f:Fr}{h:Hp}{P:Fr->Hp->Prop}:PostL (some (f,h)) P=P f h:=rfl
theorem postV_some {v:Value}{h:Hp}{P:Value->Hp->Prop}:PostV (some (v,h)) P=P v h:=rfl
theorem Post.mono {r:Option (AX×Fr×Hp)}{P Q:AX->Fr->Hp->Prop}(h:Post r P)(hq:∀x f h,P x f h->Q x f h):Post r Q:=by
 match r,h with
 | some (x,f,h),hp=>exact hq x f h hp
theorem PostV.mono {r:Option (Value×Hp)}{P Q:Value->Hp->Prop}(h:PostV r P)(hq:∀v h,P v h->Q v h):PostV r Q:=by
 match r,h with
 | some (v,h),hp=>exact hq v h hp
theorem PostV.out {r:Option (Value×Hp)}{P:Value->Hp->Prop}(h:PostV r P):∃v h,r=some (v,h)/\P v h:=by
 match r,h with
 | some (v,h),hp=>exact⟨v,h,rfl,hp⟩
theorem PostV.of {r:Option (Value×Hp)}{v:Value}{h:Hp}(e:r=some (v,h)){P:Value->Hp->Prop}(hp:P v h):PostV r P:=by rw[e]; exact hp
theorem PostV.eq {r:Option (Value×Hp)}{v:Value}{h:Hp}(hp:PostV r fun v' h'=>v'=v/\h'=h):r=some (v,h):=by
 obtain⟨v',h',e,rfl,rfl⟩:=hp.out;exact e
def seqP (E:Env)(lim:Nat)(b:AC)(P:AX->Fr->Hp->Prop)(x:AX)(f:Fr)(h:Hp):Prop:=match x with
 | .norm=>Post (evK E lim b f h) P
 | x=>P x f h
def blkP (id:Nat)(P:AX->Fr->Hp->Prop)(x:AX)(f:Fr)(h:Hp):Prop:=match x with
 | .exit i=>if i=id then P .norm f h else P (.exit i) f h
 | x=>P x f h
def retP (keep:Bool)(h0:Hp)(res:List ARes)(R:Value->Hp->Prop)(x:AX)(f:Fr)(h:Hp):Prop:=match x with
 | .exit _=>False
 | _=>PostV (match resV f h res with | some v=>leave keep h0 h v | none=>none) R
def norP (P:AX->Fr->Hp->Prop)(f:Fr)(h:Hp):Prop:=P .norm f h
def runP (call:CallT)(lim:Nat)(l:List AI)(Q:Fr->Hp->Prop)(f:Fr)(h:Hp):Prop:=PostL (runL call lim l f h) Q
def putP (d:Option Nat)(f:Fr)(Q:Fr->Hp->Prop)(v:Value)(h:Hp):Prop:=Q (put f d v) h
theorem seqP_norm {E:Env}{lim:Nat}{b:AC}{P:AX->Fr->Hp->Prop}{f:Fr}{h:Hp}:seqP E lim b P .norm f h=Post (evK E lim b f h) P:=rfl
theorem seqP_ret {E:Env}{lim:Nat}{b:AC}{P:AX->Fr->Hp->Prop}{f:Fr}{h:Hp}:seqP E lim b P .ret f h=P .ret f h:=rfl
theorem seqP_exit {E:Env}{lim:Nat}{b:AC}{P:AX->Fr->Hp->Prop}{i:Nat}{f:Fr}{h:Hp}:seqP E lim b P (.exit i) f h=P (.exit i) f h:=rfl
theorem blkP_norm {id:Nat}{P:AX->Fr->Hp->Prop}{f:Fr}{h:Hp}:blkP id P .norm f h=P .norm f h:=rfl
theorem blkP_ret {id:Nat}{P:AX->Fr->Hp->Prop}{f:Fr}{h:Hp}:blkP id P .ret f h=P .ret f h:=rfl
theorem blkP_exit {id i:Nat}{P:AX->Fr->Hp->Prop}{f:Fr}{h:Hp}:blkP id P (.exit i) f h=if i=id then P .norm f h else P (.exit i) f h:=rfl
theorem retP_norm {keep:Bool}{h0:Hp}{res:List ARes}{R:Value->Hp->Prop}{f:Fr}{h:Hp}:retP keep h0 res R .norm f h=PostV (match resV f h res with | some v=>leave keep h0 h v | none=>none) R:=rfl
theorem retP_ret {keep:Bool}{h0:Hp}{res:List ARes}{R:Value->Hp->Prop}{f:Fr}{h:Hp}:retP keep h0 res R .ret f h=PostV (match resV f h res with | some v=>leave keep h0 h v | none=>none) R:=rfl
theorem norP_eq {P:AX->Fr->Hp->Prop}{f:Fr}{h:Hp}:norP P f h=P .norm f h:=rfl
theorem runP_eq {call:CallT}{lim:Nat}{l:List AI}{Q:Fr->Hp->Prop}{f:Fr}{h:Hp}:runP call lim l Q f h=PostL (runL call lim l f h) Q:=rfl
theorem putP_eq {d:Nat}{f:Fr}{Q:Fr->Hp->Prop}{v:Value}{h:Hp}:putP (some d) f Q v h=Q (f.st d v) h:=rfl
theorem putP_none {f:Fr}{Q:Fr->Hp->Prop}{v:Value}{h:Hp}:putP none f Q v h=Q f h:=rfl
theorem post_seqK {E:Env}{lim:Nat}{b:AC}{r:Option (AX×Fr×Hp)}{P:AX->Fr->Hp->Prop}:Post (seqK E lim b r) P=Post r (seqP E lim b P):=by
 match r with
 | none=>rfl
 | some (.norm,f,h)=>rfl
 | some (.exit i,f,h)=>rfl
 | some (.ret,f,h)=>rfl
theorem post_blockK {id:Nat}{r:Option (AX×Fr×Hp)}{P:AX->Fr->Hp->Prop}:Post (blockK id r) P=Post r (blkP id P):=by
 match r with
 | none=>rfl
 | some (.norm,f,h)=>rfl
 | some (.ret,f,h)=>rfl
 | some (.exit i,f,h) =>
  simp only[blockK,post_some,blkP];split<;>rfl
theorem post_retK {keep:Bool}{h0:Hp}{res:List ARes}{r:Option (AX×Fr×Hp)}{R:Value->Hp->Prop}:PostV (retK keep h0 res r) R=Post r (retP keep h0 res R):=by
 match r with
 | none=>rfl
 | some (.norm,f,h)=>rfl
 | some (.ret,f,h)=>rfl
 | some (.exit i,f,h)=>rfl
theorem post_afterL {r:Option (Fr×Hp)}{P:AX->Fr->Hp->Prop}:Post (afterL r) P=PostL r (norP P):=by
 match r with
 | none=>rfl
 | some (f,h)=>rfl
theorem post_nextL {call:CallT}{lim:Nat}{l:List AI}{r:Option (Fr×Hp)}{Q:Fr->Hp->Prop}:PostL (nextL call lim l r) Q=PostL r (runP call lim l Q):=by
 match r with
 | none=>rfl
 | some (f,h)=>rfl
theorem post_putR {d:Option Nat}{f:Fr}{r:Option (Value×Hp)}{Q:Fr->Hp->Prop}:PostL (putR d f r) Q=PostV r (putP d f Q):=by
 match r with
 | none=>rfl
 | some (v,h)=>rfl
theorem post_if {c:Prop}[Decidable c]{a b:Option (AX×Fr×Hp)}{P:AX->Fr->Hp->Prop}:Post (if c then a else b) P=if c then Post a P else Post b P:=by split<;>rfl
def lopP (I:Nat->Fr->Hp->Prop)(k:Nat)(P:AX->Fr->Hp->Prop)(x:AX)(f:Fr)(h:Hp):Prop:=match x with
 | .norm=>∃k',k'<k/\I k' f h
 | x=>P x f h
theorem lopP_norm {I:Nat->Fr->Hp->Prop}{k:Nat}{P:AX->Fr->Hp->Prop}{f:Fr}{h:Hp}:lopP I k P .norm f h=∃k',k'<k/\I k' f h:=rfl
theorem lopP_exit {I:Nat->Fr->Hp->Prop}{k i:Nat}{P:AX->Fr->Hp->Prop}{f:Fr}{h:Hp}:lopP I k P (.exit i) f h=P (.exit i) f h:=rfl
theorem lopP_ret {I:Nat->Fr->Hp->Prop}{k:Nat}{P:AX->Fr->Hp->Prop}{f:Fr}{h:Hp}:lopP I k P .ret f h=P .ret f h:=rfl
theorem loop_post {E:Env}(hM:EnvMono E){lim:Nat}{a:AC}{P:AX->Fr->Hp->Prop}(I:Nat->Fr->Hp->Prop)(step:∀k f h,I k f h->Post (evK E lim a f h) (lopP I k P)):∀(k:Nat) (f:Fr) (h:Hp),I k f h->Post (evK E lim (.loop a) f h) P:=by
 intro k
 induction k using Nat.strongRecOn with
 | _ k ih =>
  intro f h hI;have hs:=step k f h hI;rw[evK_loop' hM,post_seqK];refine hs.mono fun x f1 h1 hp=>?_;cases x with
  | norm =>
   obtain⟨k',hk,hI'⟩:=hp;exact ih k' hk f1 h1 hI'
  | exit i=>exact hp
  | ret=>exact hp
theorem bool_ft:(false==true)=false:=rfl
theorem bool_tf:(true==false)=false:=rfl
theorem bool_ff:(false==false)=true:=rfl
theorem bool_tt:(true==true)=true:=rfl
attribute [push_cast] bool_ft bool_tf bool_ff bool_tt post_some postL_some postV_some seqP_norm seqP_ret seqP_exit blkP_norm blkP_ret blkP_exit retP_norm retP_ret norP_eq runP_eq putP_eq putP_none post_seqK post_blockK post_retK post_afterL post_nextL post_putR lopP_norm lopP_exit lopP_ret
end
section
variable {E:Env}(hE:EnvT E){lim:Nat}{h:Hp}
include hE
def rotF (a k:Int):Int:=IntKind.u64.wrap ↑(BitVec.ofInt 64 (IntKind.u64.wrap (a*2 ^ min (IntKind.u64.wrap ↑(BitVec.ofInt 64 (IntKind.u64.wrap k)&&&BitVec.ofInt 64 63).toNat).toNat 64)) |||
 BitVec.ofInt 64 (a.fdiv (2 ^ min (IntKind.u64.wrap (64-IntKind.u64.wrap ↑(BitVec.ofInt 64 (IntKind.u64.wrap k)&&&BitVec.ofInt 64 63).toNat)).toNat 64))).toNat
theorem c170r (a k:Int):evI E lim (.func 170) [.int .u64 a,.int .i64 k] h=some (.int .u64 (rotF a k),h):=by
 rw[hE.fn T170]; simp +contextual only[push_cast,ac170,u64neg,simprocAttr];rfl
theorem c110 (b0 b1 b2 b3 b4 b5 b6 b7:Int):∃n,evI E lim (.func 110) [.agg #[.int .u8 b0,.int .u8 b1,.int .u8 b2,.int .u8 b3,.int .u8 b4,.int .u8 b5,.int .u8 b6,.int .u8 b7]] h=some (.int .u64 (IntKind.u64.wrap n),h):=by
 rw[hE.fn T110]; simp +contextual (disch:=omega) only[push_cast,ac110,evK_loop' hE.mono,lp110_0,wrap64,Int.tdiv_eq_ediv_of_nonneg,Int.tmod_eq_emod_of_nonneg,simprocAttr];exact⟨_,rfl⟩
theorem c110p (b0 b1 b2 b3 b4 b5 b6 b7:Int):PostV (evI E lim (.func 110) [.agg #[.int .u8 b0,.int .u8 b1,.int .u8 b2,.int .u8 b3,.int .u8 b4,.int .u8 b5,.int .u8 b6,.int .u8 b7]] h) fun v h'=>h'=h/\∃n,v=.int .u64 (IntKind.u64.wrap n):=by
 obtain⟨n,e⟩:=c110 hE (lim:=lim) (h:=h) b0 b1 b2 b3 b4 b5 b6 b7;exact PostV.of e ⟨rfl,n,rfl⟩
def q4 (A B C D:Int)(rest:List Value):Blk:=.cells true (.int .u64 A::.int .u64 B::.int .u64 C::.int .u64 D::rest)
theorem round112 {b:Nat}{f:Fr}{H:Hp}{A B C D:Int}{rest:List Value}{n k:Int}(f0:f.rd 0=.pointer (some ⟨b,0,none⟩))(f4:f.rd 4=.int .i64 n)(f5:f.rd 5=.int .i64 k)(hk:0<=k)(hn:n<=100)(hkn:k<n)(hb:H[b]?=some (q4 A B C D rest)) :
  Post (evK E lim lp112_0 f H) fun x f' H'=>x=.norm/\f'.rd 0=.pointer (some ⟨b,0,none⟩)/\f'.rd 4=.int .i64 n/\f'.rd 5=.int .i64 (k+1)/\∃A' B' C' D',H'=H.set b (q4 A' B' C' D' rest):=by
 have hlt:=lt_of_get hb;unfold q4 at hb ⊢;simp +contextual (disch:=omega) only[push_cast,lp112_0,f0,f4,f5,hb,c170r hE,set_get hlt,hkn,wrap64,Int.tdiv_eq_ediv_of_nonneg,Int.tmod_eq_emod_of_nonneg,simprocAttr];exact⟨_,_,_,_,rfl⟩
theorem c112 {b:Nat}{A B C D:Int}{rest:List Value}{n:Int}(hn:n<=100)(hb:h[b]?=some (q4 A B C D rest)) :
  PostV (evI E lim (.func 112) [.pointer (some ⟨b,0,none⟩),.int .i64 n] h) fun v h'=>v=undef/\∃A' B' C' D',h'=h.set b (q4 A' B' C' D' rest):=by
 have hlt:=lt_of_get hb;rw[hE.fn T112]; simp +contextual only[push_cast,ac112,simprocAttr];refine loop_post hE.mono (fun k f H=>∃(i:Int) (A B C D:Int),0<=i/\(n-i).toNat=k/\f.rd 0=.pointer (some ⟨b,0,none⟩)/\f.rd 4=.int .i64 n/\f.rd 5=.int .i64 i/\H=h.set b (q4 A B C D rest)) ?_ n.toNat _ _ ?_
 ·rintro k f H ⟨i,A,B,C,D,h0,hk,f0,f4,f5,rfl⟩
  by_cases hi:i<n
  ·refine(round112 hE f0 f4 f5 h0 hn hi (set_get hlt)).mono ?_;rintro x f' H' ⟨rfl,g0,g4,g5,A',B',C',D',rfl⟩;exact⟨(n-(i+1)).toNat,by omega,i+1,A',B',C',D',by omega,rfl,g0,g4,g5,by rw[List.set_set]⟩
  ·simp +contextual only[push_cast,lp112_0,f4,f5,hi,take_set,simprocAttr];exact⟨rfl,_,_,_,_,rfl⟩
 ·exact⟨0,A,B,C,D,Int.le_refl _,by simp,rfl,rfl,rfl,(set_same hb).symm⟩
theorem c111 {b:Nat}{A B C D m:Int}{rest:List Value}(hb:h[b]?=some (q4 A B C D rest)) :
  PostV (evI E lim (.func 111) [.pointer (some ⟨b,0,none⟩),.int .u64 m] h) fun v h'=>v=undef/\∃A' B' C' D',h'=h.set b (q4 A' B' C' D' rest):=by
 have hlt:=lt_of_get hb;have hb':=hb;unfold q4 at hb';rw[hE.fn T111]; simp +contextual only[push_cast,ac111,hb',set_get hlt,simprocAttr];refine(c112 hE (by omega) (set_get hlt)).mono ?_;rintro v h' ⟨rfl,A',B',C',D',rfl⟩;simp +contextual only[push_cast,q4,set_get hlt,take_set,simprocAttr];exact⟨rfl,_,_,_,_,rfl⟩
def hashB (l0 l1 l2 l3 l4 l5 l6 l7 m:Int):List Value:=[.int .u8 l0,.int .u8 l1,.int .u8 l2,.int .u8 l3,.int .u8 l4,.int .u8 l5,.int .u8 l6,.int .u8 l7,.int .i64 m]
theorem c58 (k0 k1 k2 k3 k4 k5 k6 k7 k8 k9 k10 k11 k12 k13 k14 k15:Int):PostV (evI E lim (.func 58) [.agg #[.int .u8 k0,.int .u8 k1,.int .u8 k2,.int .u8 k3,.int .u8 k4,.int .u8 k5,.int .u8 k6,.int .u8 k7,.int .u8 k8,.int .u8 k9,.int .u8 k10,.int .u8 k11,.int .u8 k12,.int .u8 k13,.int .u8 k14,.int .u8 k15]] h) fun v h'=>v=.pointer (some ⟨h.length+1,0,none⟩) /\
  ∃A B C D,h'=h++[.cells true [.int .u8 k0,.int .u8 k1,.int .u8 k2,.int .u8 k3,.int .u8 k4,.int .u8 k5,.int .u8 k6,.int .u8 k7,.int .u8 k8,.int .u8 k9,.int .u8 k10,.int .u8 k11,.int .u8 k12,.int .u8 k13,.int .u8 k14,.int .u8 k15],q4 A B C D (hashB 0 0 0 0 0 0 0 0 0)]:=by
 obtain⟨n,hn⟩:=c110 hE (lim:=lim) (h:=h++[.cells true [.int .u8 k0,.int .u8 k1,.int .u8 k2,.int .u8 k3,.int .u8 k4,.int .u8 k5,.int .u8 k6,.int .u8 k7,.int .u8 k8,.int .u8 k9,.int .u8 k10,.int .u8 k11,.int .u8 k12,.int .u8 k13,.int .u8 k14,.int .u8 k15]]) k0 k1 k2 k3 k4 k5 k6 k7;obtain⟨n',hn'⟩:=c110 hE (lim:=lim) (h:=h++[.cells true [.int .u8 k0,.int .u8 k1,.int .u8 k2,.int .u8 k3,.int .u8 k4,.int .u8 k5,.int .u8 k6,.int .u8 k7,.int .u8 k8,.int .u8 k9,.int .u8 k10,.int .u8 k11,.int .u8 k12,.int .u8 k13,.int .u8 k14,.int .u8 k15]]) k8 k9 k10 k11 k12 k13 k14 k15;rw[hE.fn T58]; simp +contextual only[push_cast,ac58,hn,hn',bound,Option.map_none,sureL,simprocAttr];exact⟨_,_,_,_,rfl⟩
theorem round59 {b sb:Nat}{f:Fr}{H:Hp}{A B C D l0 l1 l2 l3 l4 l5 l6 l7:Int}{own:Bool}{bs:List Value}{i:Int}(hne:b≠sb)(f0:f.rd 0=.pointer (some ⟨b,0,none⟩))(f8:f.rd 8=.slice (some ⟨sb,0,none⟩) bs.length 1)(f9:f.rd 9=.int .i64 bs.length)(f10:f.rd 10=.int .i64 i)
  (hi:0<=i)(hn:i<bs.length)(hl:bs.length<1000000000)(hb:H[b]?=some (q4 A B C D (hashB l0 l1 l2 l3 l4 l5 l6 l7 i)))(hs:H[sb]?=some (.cells own bs))(hbs:∀j,j<bs.length->∃n,bs[j]?=some (.int .u8 n)) :
  Post (evK E lim lp59_0 f H) fun x f' H'=>x=.norm/\f'.rd 0=.pointer (some ⟨b,0,none⟩)/\f'.rd 8=.slice (some ⟨sb,0,none⟩) bs.length 1/\f'.rd 9=.int .i64 bs.length/\f'.rd 10=.int .i64 (i+1) /\
   ∃A B C D l0 l1 l2 l3 l4 l5 l6 l7,H'=H.set b (q4 A B C D (hashB l0 l1 l2 l3 l4 l5 l6 l7 (i+1))):=by
 have hlt:=lt_of_get hb;obtain⟨n,hbn⟩:=hbs i.toNat (by omega);have e1:(i.toNat<bs.length)=True:=by simp; omega
 have e2:(0<=i)=True:=by simp[hi]
 have e3:i.tmod 8=i%8:=Int.tmod_eq_emod_of_nonneg hi;have e4:(i+1).tmod 8=(i+1)%8:=Int.tmod_eq_emod_of_nonneg (by omega);unfold q4 hashB at hb ⊢;have h8:i%8=0\/i%8=1\/i%8=2\/i%8=3\/i%8=4\/i%8=5\/i%8=6\/i%8=7:=by omega
 rcases h8 with h8 | h8 | h8 | h8 | h8 | h8 | h8 | h8
 all_goals
  have h9:=h8;rw[<- e3] at h8
 ·have h10:(i+1).tmod 8=1:=by omega
  clear e3 e4 h9;simp +contextual (disch:=omega) only[push_cast,lp59_0,f0,f8,f9,f10,hb,hs,hbn,set_get hlt,set_ne hne,h8,h10,hn,e2,Nat.mul_one,wrap64,Int.tdiv_eq_ediv_of_nonneg,Int.tmod_eq_emod_of_nonneg,simprocAttr];exact⟨_,_,_,_,_,_,_,_,_,_,_,_,rfl⟩
 ·have h10:(i+1).tmod 8=2:=by omega
  clear e3 e4 h9;simp +contextual (disch:=omega) only[push_cast,lp59_0,f0,f8,f9,f10,hb,hs,hbn,set_get hlt,set_ne hne,h8,h10,hn,e2,Nat.mul_one,wrap64,Int.tdiv_eq_ediv_of_nonneg,Int.tmod_eq_emod_of_nonneg,simprocAttr];exact⟨_,_,_,_,_,_,_,_,_,_,_,_,rfl⟩
 ·have h10:(i+1).tmod 8=3:=by omega
  clear e3 e4 h9;simp +contextual (disch:=omega) only[push_cast,lp59_0,f0,f8,f9,f10,hb,hs,hbn,set_get hlt,set_ne hne,h8,h10,hn,e2,Nat.mul_one,wrap64,Int.tdiv_eq_ediv_of_nonneg,Int.tmod_eq_emod_of_nonneg,simprocAttr];exact⟨_,_,_,_,_,_,_,_,_,_,_,_,rfl⟩
 ·have h10:(i+1).tmod 8=4:=by omega
  clear e3 e4 h9;simp +contextual (disch:=omega) only[push_cast,lp59_0,f0,f8,f9,f10,hb,hs,hbn,set_get hlt,set_ne hne,h8,h10,hn,e2,Nat.mul_one,wrap64,Int.tdiv_eq_ediv_of_nonneg,Int.tmod_eq_emod_of_nonneg,simprocAttr];exact⟨_,_,_,_,_,_,_,_,_,_,_,_,rfl⟩
 ·have h10:(i+1).tmod 8=5:=by omega
  clear e3 e4 h9;simp +contextual (disch:=omega) only[push_cast,lp59_0,f0,f8,f9,f10,hb,hs,hbn,set_get hlt,set_ne hne,h8,h10,hn,e2,Nat.mul_one,wrap64,Int.tdiv_eq_ediv_of_nonneg,Int.tmod_eq_emod_of_nonneg,simprocAttr];exact⟨_,_,_,_,_,_,_,_,_,_,_,_,rfl⟩
 ·have h10:(i+1).tmod 8=6:=by omega
  clear e3 e4 h9;simp +contextual (disch:=omega) only[push_cast,lp59_0,f0,f8,f9,f10,hb,hs,hbn,set_get hlt,set_ne hne,h8,h10,hn,e2,Nat.mul_one,wrap64,Int.tdiv_eq_ediv_of_nonneg,Int.tmod_eq_emod_of_nonneg,simprocAttr];exact⟨_,_,_,_,_,_,_,_,_,_,_,_,rfl⟩
 ·have h10:(i+1).tmod 8=7:=by omega
  clear e3 e4 h9;simp +contextual (disch:=omega) only[push_cast,lp59_0,f0,f8,f9,f10,hb,hs,hbn,set_get hlt,set_ne hne,h8,h10,hn,e2,Nat.mul_one,wrap64,Int.tdiv_eq_ediv_of_nonneg,Int.tmod_eq_emod_of_nonneg,simprocAttr];exact⟨_,_,_,_,_,_,_,_,_,_,_,_,rfl⟩
 ·have h10:(i+1).tmod 8=0:=by omega
  clear e3 e4 h9;obtain⟨nn,hnn⟩:=c110 hE (lim:=lim) (h:=H.set b (.cells true [.int .u64 A,.int .u64 B,.int .u64 C,.int .u64 D,.int .u8 l0,.int .u8 l1,.int .u8 l2,.int .u8 l3,.int .u8 l4,.int .u8 l5,.int .u8 l6,.int .u8 n,.int .i64 (i+1)])) l0 l1 l2 l3 l4 l5 l6 n;simp +contextual (disch:=omega) only[push_cast,lp59_0,f0,f8,f9,f10,hb,hs,hbn,set_get hlt,set_ne hne,h8,h10,hn,e2,Nat.mul_one,hnn,wrap64,Int.tdiv_eq_ediv_of_nonneg,Int.tmod_eq_emod_of_nonneg,simprocAttr];refine(c111 hE (by rw[set_get hlt]; rfl)).mono ?_;rintro v h' ⟨rfl,A',B',C',D',rfl⟩;simp +contextual (disch:=omega) only[push_cast,f0,f8,f9,f10,q4,wrap64,Int.tdiv_eq_ediv_of_nonneg,Int.tmod_eq_emod_of_nonneg,simprocAttr];exact⟨_,_,_,_,_,_,_,_,_,_,_,_,rfl⟩
theorem c59 {b sb:Nat}{A B C D:Int}{own:Bool}{bs:List Value}(hne:b≠sb)(hl:bs.length<1000000000)(hb:h[b]?=some (q4 A B C D (hashB 0 0 0 0 0 0 0 0 0)))(hs:h[sb]?=some (.cells own bs))(hbs:∀j,j<bs.length->∃n,bs[j]?=some (.int .u8 n)) :
  PostV (evI E lim (.func 59) [.pointer (some ⟨b,0,none⟩),.slice (some ⟨sb,0,none⟩) bs.length 1] h) fun v h'=>v=undef/\∃A B C D l0 l1 l2 l3 l4 l5 l6 l7,h'=h.set b (q4 A B C D (hashB l0 l1 l2 l3 l4 l5 l6 l7 bs.length)):=by
 have hlt:=lt_of_get hb;rw[hE.fn T59]; simp +contextual only[push_cast,ac59,simprocAttr];refine loop_post hE.mono (fun k f H=>∃(i A B C D l0 l1 l2 l3 l4 l5 l6 l7:Int),0<=i/\i<=bs.length/\(bs.length-i).toNat=k/\f.rd 0=.pointer (some ⟨b,0,none⟩)/\f.rd 8=.slice (some ⟨sb,0,none⟩) bs.length 1/\f.rd 9=.int .i64 bs.length/\f.rd 10=.int .i64 i/\H=h.set b (q4 A B C D (hashB l0 l1 l2 l3 l4 l5 l6 l7 i))) ?_ bs.length _ _ ?_
 ·rintro k f H ⟨i,A,B,C,D,l0,l1,l2,l3,l4,l5,l6,l7,h0,h1,hk,f0,f8,f9,f10,rfl⟩
  by_cases hi:i<bs.length
  ·refine(round59 hE hne f0 f8 f9 f10 h0 hi hl (set_get hlt) (by rw[set_ne hne]; exact hs) hbs).mono ?_;rintro x f' H' ⟨rfl,g0,g8,g9,g10,A,B,C,D,l0,l1,l2,l3,l4,l5,l6,l7,rfl⟩;exact⟨(bs.length-(i+1)).toNat,by omega,i+1,_,_,_,_,_,_,_,_,_,_,_,_,by omega,by omega,rfl,g0,g8,g9,g10,by rw[List.set_set]⟩
  ·have:i=bs.length:=by omega
   subst this;simp +contextual only[push_cast,lp59_0,f9,f10,Int.lt_irrefl,take_set,simprocAttr];exact⟨rfl,_,_,_,_,_,_,_,_,_,_,_,_,rfl⟩
 ·exact⟨0,A,B,C,D,0,0,0,0,0,0,0,0,Int.le_refl _,by omega,by simp,rfl,rfl,rfl,rfl,(set_same hb).symm⟩
theorem c60 {b:Nat}{A B C D l0 l1 l2 l3 l4 l5 l6 l7 m:Int}(hm:0<=m)(hb:h[b]?=some (q4 A B C D (hashB l0 l1 l2 l3 l4 l5 l6 l7 m))) :
  PostV (evI E lim (.func 60) [.pointer (some ⟨b,0,none⟩)] h) fun v h'=>h'=h/\∃n,v=.int .u64 (IntKind.u64.wrap n):=by
 have hlt:=lt_of_get hb;have e3:m.tmod 8=m%8:=Int.tmod_eq_emod_of_nonneg hm;unfold q4 hashB at hb;have m0:min 0 8=0:=by decide
 have m1:min 1 8=1:=by decide
 have m2:min 2 8=2:=by decide
 have m3:min 3 8=3:=by decide
 have m4:min 4 8=4:=by decide
 have m5:min 5 8=5:=by decide
 have m6:min 6 8=6:=by decide
 have m7:min 7 8=7:=by decide
 have h8:m%8=0\/m%8=1\/m%8=2\/m%8=3\/m%8=4\/m%8=5\/m%8=6\/m%8=7:=by omega
 rcases h8 with h8 | h8 | h8 | h8 | h8 | h8 | h8 | h8
 all_goals
  rw[<- e3] at h8;rw[hE.fn T60]; simp +contextual only[push_cast,ac60,get_lt hlt,hb,h8,bound,Option.map_none,srcOf,m0,m1,m2,m3,m4,m5,m6,m7,Nat.mul_one,simprocAttr];refine(c110p hE _ _ _ _ _ _ _ _).mono ?_;rintro v h' ⟨rfl,n,rfl⟩;simp +contextual only[push_cast,simprocAttr];refine(c111 hE (by rw[get_app0]; rfl)).mono ?_;rintro v h' ⟨rfl,A',B',C',D',rfl⟩;simp +contextual only[push_cast,q4,simprocAttr];refine(c112 hE (by decide) (by rw[get_app0]; rfl)).mono ?_;rintro v h' ⟨rfl,A',B',C',D',rfl⟩;simp +contextual only[push_cast,q4,simprocAttr];exact⟨_,rfl⟩
theorem c19_0 (k0 k1 k2 k3 k4 k5 k6 k7 k8 k9 k10 k11 k12 k13 k14 k15:Int)(s:ByteArray)(r:Int)(hr:r<1):evI E lim (.func 19) [.agg #[.int .u8 k0,.int .u8 k1,.int .u8 k2,.int .u8 k3,.int .u8 k4,.int .u8 k5,.int .u8 k6,.int .u8 k7,.int .u8 k8,.int .u8 k9,.int .u8 k10,.int .u8 k11,.int .u8 k12,.int .u8 k13,.int .u8 k14,.int .u8 k15],.string s,.int .i64 r] h=some (.int .i64 0,h):=by
 rw[hE.fn T19]; simp +contextual only[push_cast,ac19,hr,simprocAttr]
theorem c19 (k0 k1 k2 k3 k4 k5 k6 k7 k8 k9 k10 k11 k12 k13 k14 k15:Int)(s:ByteArray)(r:Int)(hr:1<=r)(hr2:r<=9223372036854775807)(hs:s.size<1000000000):PostV (evI E lim (.func 19) [.agg #[.int .u8 k0,.int .u8 k1,.int .u8 k2,.int .u8 k3,.int .u8 k4,.int .u8 k5,.int .u8 k6,.int .u8 k7,.int .u8 k8,.int .u8 k9,.int .u8 k10,.int .u8 k11,.int .u8 k12,.int .u8 k13,.int .u8 k14,.int .u8 k15],.string s,.int .i64 r] h) fun v h'=>h'=h/\∃n,v=.int .i64 n/\0<=n/\n<r:=by
 have hr1:(r<1)=False:=by simp; omega
 rw[hE.fn T19]; simp +contextual only[push_cast,ac19,hr1,simprocAttr];refine(c58 hE _ _ _ _ _ _ _ _ _ _ _ _ _ _ _ _).mono ?_;rintro v h' ⟨rfl,A,B,C,D,rfl⟩;simp +contextual only[push_cast,Nat.add_assoc,simprocAttr];have hlen:(s.data.toList.map fun b=>Value.int .u8 b.toNat).length=s.size:=by rw[List.length_map,Array.length_toList]; rfl
 have key:=fun H hb hs'=>c59 hE (lim:=h.length) (h:=H) (b:=h.length+2) (sb:=h.length+3) (A:=A) (B:=B) (C:=C) (D:=D) (own:=true) (bs:=s.data.toList.map fun b=>Value.int .u8 b.toNat) (by omega) (by rw[hlen]; exact hs) hb hs' (fun j hj=>by
  rw[List.length_map] at hj;exact⟨_,by rw[List.getElem?_map,List.getElem?_eq_getElem hj]; rfl⟩)
 rw[hlen] at key;refine(key _ (by rw[get_app]; rfl) (by rw[get_app]; rfl)).mono ?_;rintro v h' ⟨rfl,A',B',C',D',l0,l1,l2,l3,l4,l5,l6,l7,rfl⟩;simp +contextual only[push_cast,simprocAttr];refine(c60 hE (m:=s.size) (by omega) (by rw[get_app]; rfl)).mono ?_;rintro v h' ⟨rfl,n,rfl⟩
 have w1:IntKind.u64.wrap r=r:=by
  simp only[IntKind.wrap,IntKind.bits,IntKind.signed];simp;omega
 have w2:(r=0)=False:=by simp; omega
 have w3:0<=IntKind.u64.wrap n:=by have:=u64neg (n:=n); simp at this; omega
 have w4:=Int.tmod_eq_emod_of_nonneg (b:=r) w3;have w5:=Int.emod_nonneg (IntKind.u64.wrap n) (by omega:r≠0);have w6:=Int.emod_lt_of_pos (IntKind.u64.wrap n) (by omega:0<r)
 have w7:IntKind.u64.wrap (IntKind.u64.wrap n%r)=IntKind.u64.wrap n%r:=by
  simp only[IntKind.wrap,IntKind.bits,IntKind.signed] at *;simp at *;omega
 have w8:=w64 (x:=IntKind.u64.wrap n%r);simp +contextual only[push_cast,w1,w2,w4,w7,w8,simprocAttr];exact⟨_,rfl,w5,w6⟩
def aroundF (d l a:Int):Bool:=decide (0<=d/\0<=l/\0<=a/\d+l<=9223372036854775807/\d+l+a<=9223372036854775807)
theorem c120 (d l a:Int)(h1:-9223372036854775808<=d)(h2:d<=9223372036854775807)(h3:-9223372036854775808<=l)(h4:l<=9223372036854775807)(h5:-9223372036854775808<=a)(h6:a<=9223372036854775807) :
  evI E lim (.func 120) [.int .i64 d,.int .i64 l,.int .i64 a] h=some (.tuple #[.agg #[.int .i64 (if aroundF d l a=true then d+l else 0),.int .i64 (if aroundF d l a=true then d+l+a else 0)],.bool (aroundF d l a)],h):=by
 by_cases hm:min (min d l) a<0
 ·have e:aroundF d l a=false:=by simp only[aroundF,decide_eq_false_iff_not]; omega
  rw[hE.fn T120]; simp +contextual only[push_cast,ac120,hm,e,simprocAttr]
 ·have c1:=c183 hE (lim:=h.length) (h:=h++[.cells true [.int .i64 0,.int .i64 0]]) d l h1 h2 h3 h4;cases hf:fits (d+l) with
  | false =>
   have e:aroundF d l a=false:=by simp only[aroundF,fits,decide_eq_false_iff_not] at *; omega
   have c2:=c183 hE (lim:=h.length) (h:=h++[.cells true [.int .i64 0,.int .i64 0]]) 0 a (by omega) (by omega) h5 h6;rw[hf] at c1;rw[hE.fn T120]; simp +contextual only[push_cast,ac120,hm,e,c1,c2,simprocAttr]
  | true =>
   have hf':-9223372036854775808<=d+l/\d+l<=9223372036854775807:=by simpa[fits] using hf
   have c2:=c183 hE (lim:=h.length) (h:=h++[.cells true [.int .i64 0,.int .i64 0]]) (d+l) a hf'.1 hf'.2 h5 h6;rw[hf] at c1;cases hg:fits (d+l+a) with
   | false =>
    have e:aroundF d l a=false:=by simp only[aroundF,fits,decide_eq_false_iff_not] at *; omega
    rw[hg] at c2;rw[hE.fn T120]; simp +contextual only[push_cast,ac120,hm,e,c1,c2,simprocAttr]
   | true =>
    have e:aroundF d l a=true:=by simp only[aroundF,fits,decide_eq_true_eq] at *; omega
    rw[hg] at c2;rw[hE.fn T120]; simp +contextual only[push_cast,ac120,hm,e,c1,c2,simprocAttr]
end
section
def SlK (k:Nat)(h:Hp)(a:Option Addr)(n e:Nat)(ev:Nat->List Value):Prop :=
 0<n->∃b o own cs,a=some ⟨b,o,none⟩/\e=k/\h[b]?=some (.cells own cs)/\o+n*k<=cs.length/\∀j,j<n->(cs.drop (o+j*k)).take k=ev j
def SlW (k:Nat)(h:Hp)(a:Option Addr)(n e:Nat)(ev:Nat->List Value):Prop :=
 (a=none/\n=0/\e=0)\/∃b o own cs,a=some ⟨b,o,none⟩/\e=k/\h[b]?=some (.cells own cs)/\o+n*k<=cs.length/\∀j,j<n->(cs.drop (o+j*k)).take k=ev j
theorem SlW.K {k:Nat}{h:Hp}{a:Option Addr}{n e:Nat}{ev:Nat->List Value}(hw:SlW k h a n e ev):SlK k h a n e ev:=by
 intro hn;rcases hw with⟨_,rfl,_⟩ | hw
 ·omega
 ·exact hw
theorem SlW.grow {k n e:Nat}{h l:Hp}{a:Option Addr}{ev:Nat->List Value}(hS:SlW k h a n e ev):SlW k (h++l) a n e ev:=by
 rcases hS with hS | ⟨b,o,own,cs,h1,h2,h3,h4⟩
 ·exact Or.inl hS
 ·exact Or.inr ⟨b,o,own,cs,h1,h2,get_old h3,h4⟩
def OwnW (k:Nat)(h:Hp)(lo:Nat)(a:Option Addr)(n e:Nat)(ev:Nat->List Value):Prop :=
 (a=none/\n=0/\e=0)\/∃b cs,a=some ⟨b,0,none⟩/\e=k/\lo<=b/\h[b]?=some (.cells true cs)/\cs.length=n*k/\∀j,j<n->(cs.drop (j*k)).take k=ev j
theorem OwnW.W {k lo:Nat}{h:Hp}{a:Option Addr}{n e:Nat}{ev:Nat->List Value}(hw:OwnW k h lo a n e ev):SlW k h a n e ev:=by
 rcases hw with hw | ⟨b,cs,h1,h2,h3,h4,h5,h6⟩
 ·exact Or.inl hw
 ·exact Or.inr ⟨b,0,true,cs,h1,h2,h4,by omega,fun j hj=>by rw[Nat.zero_add]; exact h6 j hj⟩
theorem OwnW.grow {k n e lo:Nat}{h l:Hp}{a:Option Addr}{ev:Nat->List Value}(hS:OwnW k h lo a n e ev):OwnW k (h++l) lo a n e ev:=by
 rcases hS with hS | ⟨b,cs,h1,h2,h3,h4,h5⟩
 ·exact Or.inl hS
 ·exact Or.inr ⟨b,cs,h1,h2,h3,get_old h4,h5⟩
theorem get1 {cs:List Value}{i:Nat}{v:Value}(h:(cs.drop i).take 1=[v]):cs[i]?=some v:=by
 have:=congrArg (fun l=>l[0]?) h;simpa[List.getElem?_take,List.getElem?_drop] using this
theorem SlK.nil {k:Nat}{h:Hp}{a:Option Addr}{e:Nat}{ev:Nat->List Value}:SlK k h a 0 e ev:=fun h=>absurd h (Nat.lt_irrefl 0)
theorem SlK.grow {k n e:Nat}{h l:Hp}{a:Option Addr}{ev:Nat->List Value}(hS:SlK k h a n e ev):SlK k (h++l) a n e ev:=by
 intro hn;obtain⟨b,o,own,cs,h1,h2,h3,h4⟩:=hS hn;exact⟨b,o,own,cs,h1,h2,get_old h3,h4⟩
theorem mul_le_in {i n k:Nat}(h:i<n):i*k+k<=n*k:=by
 have:(i+1)*k<=n*k:=Nat.mul_le_mul_right k h;rw[Nat.add_mul,Nat.one_mul] at this;exact this
def findI (q:Nat->Bool):Nat->Nat->Int
 | _,0=>-1
 | i,m+1=>if q i=true then i else findI q (i+1) m
theorem findI_in (q:Nat->Bool):∀(m i:Nat),-1<=findI q i m/\findI q i m<(i:Int)+m/\(0<=findI q i m->(i:Int)<=findI q i m/\q (findI q i m).toNat=true)
 | 0,i=>by simp only[findI]; omega
 | m+1,i=>by
  simp only[findI];split
  ·rename_i hq;refine⟨by omega,by omega,fun _=>⟨by omega,?_⟩⟩;simpa using hq
  ·obtain⟨h1,h2,h3⟩:=findI_in q m (i+1);refine⟨by omega,by omega,fun h=>?_⟩;obtain⟨h4,h5⟩:=h3 h;exact⟨by omega,h5⟩
theorem findI_none (q:Nat->Bool):∀(m i:Nat),findI q i m<0->∀j,i<=j->j<i+m->q j=false
 | 0,i,_,j,h1,h2=>by omega
 | m+1,i,h,j,h1,h2=>by
  simp only[findI] at h;split at h
  ·omega
  ·rename_i hq
   by_cases e:j=i
   ·subst e; simpa using hq
   ·exact findI_none q m (i+1) h j (by omega) (by omega)
theorem findI_step {q:Nat->Bool}{i n:Nat}(h:i<n):findI q i (n-i)=if q i=true then(i:Int) else findI q (i+1) (n-(i+1)):=by
 obtain⟨m,e⟩:∃m,n-i=m+1:=⟨n-i-1,by omega⟩;rw[e,show n-(i+1)=m by omega];rfl
variable {E:Env}(hE:EnvT E){lim:Nat}{h:Hp}
include hE
theorem c139 {a:Option Addr}{n e:Nat}{L:Nat->List Value}{p:Nat}{fa fb:Array Value}{q:Nat->Bool}(hS:SlK 3 h a n e (L))(hn:n<1000000000000)
  (hp:∀j,j<n->evI E h.length (.func (p:FuncId)) (fa.toList++[.agg (L j).toArray]++fb.toList) h=some (.bool (q j),h)) :
  evI E lim (.func 139) [.slice a n e,.func (.func p) fa fb] h=some (.int .i64 (findI q 0 n),h):=by
 refine PostV.eq ?_;rw[hE.fn T139]; simp +contextual only[push_cast,ac139,simprocAttr];refine loop_post hE.mono (fun k f H=>∃i:Nat,i<=n/\n-i=k/\findI q 0 n=findI q i (n-i)/\f.rd 0=.slice a n e/\f.rd 1=.func (.func p) fa fb/\f.rd 7=.int .i64 n/\f.rd 8=.int .i64 i/\H=h) ?_ n _ _ ?_
 ·rintro k f H ⟨i,hi,hk,hq,f0,f1,f7,f8,rfl⟩
  by_cases hin:i<n
  ·obtain⟨b,o,own,cs,rfl,rfl,h1,h2,h3⟩:=hS (by omega);have h4:=h3 i hin;have h5:=mul_le_in (k:=3) hin;have h6:o+i*3+3<=cs.length:=by omega
   have e1:((i:Int)<n)=True:=by simp[hin]
   have e2:(0<=(i:Int))=True:=by simp
   have e3:=wn1 (i:=i);have hp':=hp i hin;rw[findI_step hin] at hq;cases hqi:q i with
   | true =>
    rw[if_pos hqi] at hq;rw[hqi] at hp';simp +contextual only[push_cast,lp139_0,f0,f1,f7,f8,e1,e2,h1,h4,h6,hp',hq,simprocAttr]
   | false =>
    rw[if_neg (by simp[hqi])] at hq;rw[hqi] at hp';simp +contextual only[push_cast,lp139_0,f0,f1,f7,f8,e1,e2,e3,h1,h4,h6,hp',simprocAttr];exact⟨n-(i+1),by omega,i+1,hin,rfl,hq,rfl⟩
  ·have:i=n:=by omega
   subst this;rw[Nat.sub_self] at hq;simp +contextual only[push_cast,lp139_0,f7,f8,Int.lt_irrefl,hq,findI,simprocAttr]
 ·exact⟨0,by omega,rfl,rfl,rfl,rfl,rfl,rfl,rfl⟩
theorem c78 {a:Option Addr}{n e:Nat}{L:Nat->List Value}{p:Nat}{fa fb:Array Value}{q:Nat->Bool}(hS:SlK 3 h a n e (L))(hn:n<1000000000000)
  (hp:∀j,j<n->evI E h.length (.func (p:FuncId)) (fa.toList++[.agg (L j).toArray]++fb.toList) h=some (.bool (q j),h)) :
  evI E lim (.func 78) [.slice a n e,.func (.func p) fa fb] h=some (.bool (decide (findI q 0 n>=0)),h):=by
 rw[hE.fn T78]; simp +contextual only[push_cast,ac78,c139 hE hS hn hp,simprocAttr]
theorem c160 {a:Option Addr}{n e:Nat}{V:Nat->Value}{p:Nat}{fa fb:Array Value}{q:Nat->Bool}(hS:SlK 1 h a n e (fun j=>[V j]))(hn:n<1000000000000)
  (hp:∀j,j<n->evI E h.length (.func (p:FuncId)) (fa.toList++[V j]++fb.toList) h=some (.bool (q j),h)) :
  evI E lim (.func 160) [.slice a n e,.func (.func p) fa fb] h=some (.int .i64 (findI q 0 n),h):=by
 refine PostV.eq ?_;rw[hE.fn T160]; simp +contextual only[push_cast,ac160,simprocAttr];refine loop_post hE.mono (fun k f H=>∃i:Nat,i<=n/\n-i=k/\findI q 0 n=findI q i (n-i)/\f.rd 0=.slice a n e/\f.rd 1=.func (.func p) fa fb/\f.rd 7=.int .i64 n/\f.rd 8=.int .i64 i/\H=h) ?_ n _ _ ?_
 ·rintro k f H ⟨i,hi,hk,hq,f0,f1,f7,f8,rfl⟩
  by_cases hin:i<n
  ·obtain⟨b,o,own,cs,rfl,rfl,h1,h2,h3⟩:=hS (by omega);have h4:=h3 i hin;have h5:=mul_le_in (k:=1) hin;have h6:o+i*1+1<=cs.length:=by omega
   have e1:((i:Int)<n)=True:=by simp[hin]
   have e2:(0<=(i:Int))=True:=by simp
   have e3:=wn1 (i:=i);have hp':=hp i hin;rw[findI_step hin] at hq;cases hqi:q i with
   | true =>
    rw[if_pos hqi] at hq;rw[hqi] at hp';simp +contextual only[push_cast,lp160_0,f0,f1,f7,f8,e1,e2,h1,get1 h4,hp',hq,simprocAttr]
   | false =>
    rw[if_neg (by simp[hqi])] at hq;rw[hqi] at hp';simp +contextual only[push_cast,lp160_0,f0,f1,f7,f8,e1,e2,e3,h1,get1 h4,hp',simprocAttr];exact⟨n-(i+1),by omega,i+1,hin,rfl,hq,rfl⟩
  ·have:i=n:=by omega
   subst this;rw[Nat.sub_self] at hq;simp +contextual only[push_cast,lp160_0,f7,f8,Int.lt_irrefl,hq,findI,simprocAttr]
 ·exact⟨0,by omega,rfl,rfl,rfl,rfl,rfl,rfl,rfl⟩
theorem c184 {a:Option Addr}{n e:Nat}{L:Nat->List Value}{p:Nat}{fa fb:Array Value}{q:Nat->Bool}(hS:SlK 2 h a n e (L))(hn:n<1000000000000)
  (hp:∀j,j<n->evI E h.length (.func (p:FuncId)) (fa.toList++[.agg (L j).toArray]++fb.toList) h=some (.bool (q j),h)) :
  evI E lim (.func 184) [.slice a n e,.func (.func p) fa fb] h=some (.int .i64 (findI q 0 n),h):=by
 refine PostV.eq ?_;rw[hE.fn T184]; simp +contextual only[push_cast,ac184,simprocAttr];refine loop_post hE.mono (fun k f H=>∃i:Nat,i<=n/\n-i=k/\findI q 0 n=findI q i (n-i)/\f.rd 0=.slice a n e/\f.rd 1=.func (.func p) fa fb/\f.rd 7=.int .i64 n/\f.rd 8=.int .i64 i/\H=h) ?_ n _ _ ?_
 ·rintro k f H ⟨i,hi,hk,hq,f0,f1,f7,f8,rfl⟩
  by_cases hin:i<n
  ·obtain⟨b,o,own,cs,rfl,rfl,h1,h2,h3⟩:=hS (by omega);have h4:=h3 i hin;have h5:=mul_le_in (k:=2) hin;have h6:o+i*2+2<=cs.length:=by omega
   have e1:((i:Int)<n)=True:=by simp[hin]
   have e2:(0<=(i:Int))=True:=by simp
   have e3:=wn1 (i:=i);have hp':=hp i hin;rw[findI_step hin] at hq;cases hqi:q i with
   | true =>
    rw[if_pos hqi] at hq;rw[hqi] at hp';simp +contextual only[push_cast,lp184_0,f0,f1,f7,f8,e1,e2,h1,h4,h6,hp',hq,simprocAttr]
   | false =>
    rw[if_neg (by simp[hqi])] at hq;rw[hqi] at hp';simp +contextual only[push_cast,lp184_0,f0,f1,f7,f8,e1,e2,e3,h1,h4,h6,hp',simprocAttr];exact⟨n-(i+1),by omega,i+1,hin,rfl,hq,rfl⟩
  ·have:i=n:=by omega
   subst this;rw[Nat.sub_self] at hq;simp +contextual only[push_cast,lp184_0,f7,f8,Int.lt_irrefl,hq,findI,simprocAttr]
 ·exact⟨0,by omega,rfl,rfl,rfl,rfl,rfl,rfl,rfl⟩
end
section
theorem chunk_all {p:Value->Bool}{k:Nat}{cs:List Value}{o:Nat}{ev:Nat->List Value}:∀(n:Nat),(∀j,j<n->(cs.drop (o+j*k)).take k=ev j)->(∀j,j<n->(ev j).all p=true)->((cs.drop o).take (n*k)).all p=true
 | 0,_,_=>by simp
 | n+1,h,hp=>by
  have ih:=chunk_all n (fun j hj=>h j (by omega)) (fun j hj=>hp j (by omega))
  have e:(cs.drop o).take ((n+1)*k)=(cs.drop o).take (n*k)++((cs.drop o).drop (n*k)).take k:=by
   rw[Nat.add_mul,Nat.one_mul,List.take_add]
  rw[e,List.all_append,ih,List.drop_drop,h n (by omega),hp n (by omega)];rfl
theorem chunk_sub {k:Nat}{cs:List Value}{o n j:Nat}(hj:j<n):(((cs.drop o).take (n*k)).drop (j*k)).take k=(cs.drop (o+j*k)).take k:=by
 have h1:=mul_le_in (k:=k) hj;rw[List.drop_take,List.take_take,List.drop_drop,Nat.min_eq_left (by omega)]
theorem own_new {k:Nat}{cs:List Value}{o n lo:Nat}{ev:Nat->List Value}(hl:o+n*k<=cs.length)(h:∀j,j<n->(cs.drop (o+j*k)).take k=ev j){H:Hp}{b:Nat}(hlo:lo<=b)(hb:H[b]?=some (.cells true ((cs.drop o).take (n*k)))):OwnW k H lo (some ⟨b,0,none⟩) n k ev:=by
 refine Or.inr ⟨b,_,rfl,rfl,hlo,hb,by rw[List.length_take,List.length_drop]; omega,fun j hj=>?_⟩;rw[chunk_sub hj];exact h j hj
variable {E:Env}(hE:EnvT E){lim:Nat}{h:Hp}
include hE
theorem c106 {a:Option Addr}{n e:Nat}{L:Nat->List Value}(hS:SlW 3 h a n e L)(hn:n<100000000)(hs:∀j,j<n->(L j).all single=true) :
  PostV (evI E lim (.func 106) [.slice a n e] h) fun v h'=>∃a' e' l,v=.slice a' n e'/\h'=h++l/\OwnW 3 h' h.length a' n e' L:=by
 rcases hS with⟨rfl,rfl,rfl⟩ | ⟨b,o,own,cs,rfl,rfl,h2,h3,h4⟩
 ·rw[hE.fn T106]; simp +contextual only[push_cast,ac106,simprocAttr];exact⟨none,0,[],rfl,(List.append_nil h).symm,Or.inl ⟨rfl,rfl,rfl⟩⟩
 ·have hall:=chunk_all n h4 hs;have hb:n*24<=140737488355328:=by omega
  by_cases h0:n=0
  ·have h3':o+0<=cs.length:=by omega
   rw[hE.fn T106]; simp +contextual only[push_cast,ac106,srcOf,get_old h2,h3',h0,Nat.zero_mul,simprocAttr];refine⟨some ⟨h.length,0,none⟩,3,[.cells true []],rfl,rfl,Or.inr ⟨_,[],rfl,rfl,Nat.le_refl _,get_app0,by simp,fun j hj=>by omega⟩⟩
  ·rw[hE.fn T106]; simp +contextual only[push_cast,ac106,srcOf,get_old h2,h3,h0,hall,hb,Nat.zero_mul,simprocAttr];exact⟨_,_,_,rfl,rfl,own_new h3 h4 (Nat.le_add_right _ _) get_app⟩
theorem c69 {a:Option Addr}{n e:Nat}{L:Nat->List Value}(hS:SlW 14 h a n e L)(hn:n<100000000)(hs:∀j,j<n->(L j).all single=true) :
  PostV (evI E lim (.func 69) [.slice a n e] h) fun v h'=>∃a' e' l,v=.slice a' n e'/\h'=h++l/\OwnW 14 h' h.length a' n e' L:=by
 rcases hS with⟨rfl,rfl,rfl⟩ | ⟨b,o,own,cs,rfl,rfl,h2,h3,h4⟩
 ·rw[hE.fn T69]; simp +contextual only[push_cast,ac69,simprocAttr];exact⟨none,0,[],rfl,(List.append_nil h).symm,Or.inl ⟨rfl,rfl,rfl⟩⟩
 ·have hall:=chunk_all n h4 hs;have hb:n*216<=140737488355328:=by omega
  by_cases h0:n=0
  ·have h3':o+0<=cs.length:=by omega
   rw[hE.fn T69]; simp +contextual only[push_cast,ac69,srcOf,get_old h2,h3',h0,Nat.zero_mul,simprocAttr];refine⟨some ⟨h.length,0,none⟩,14,[.cells true []],rfl,rfl,Or.inr ⟨_,[],rfl,rfl,Nat.le_refl _,get_app0,by simp,fun j hj=>by omega⟩⟩
  ·rw[hE.fn T69]; simp +contextual only[push_cast,ac69,srcOf,get_old h2,h3,h0,hall,hb,Nat.zero_mul,simprocAttr];exact⟨_,_,_,rfl,rfl,own_new h3 h4 (Nat.le_add_right _ _) get_app⟩
theorem c70 {a:Option Addr}{n e:Nat}{L:Nat->List Value}(hS:SlW 2 h a n e L)(hn:n<100000000)(hs:∀j,j<n->(L j).all single=true) :
  PostV (evI E lim (.func 70) [.slice a n e] h) fun v h'=>∃a' e' l,v=.slice a' n e'/\h'=h++l/\OwnW 2 h' h.length a' n e' L:=by
 rcases hS with⟨rfl,rfl,rfl⟩ | ⟨b,o,own,cs,rfl,rfl,h2,h3,h4⟩
 ·rw[hE.fn T70]; simp +contextual only[push_cast,ac70,simprocAttr];exact⟨none,0,[],rfl,(List.append_nil h).symm,Or.inl ⟨rfl,rfl,rfl⟩⟩
 ·have hall:=chunk_all n h4 hs;have hb:n*16<=140737488355328:=by omega
  by_cases h0:n=0
  ·have h3':o+0<=cs.length:=by omega
   rw[hE.fn T70]; simp +contextual only[push_cast,ac70,srcOf,get_old h2,h3',h0,Nat.zero_mul,simprocAttr];refine⟨some ⟨h.length,0,none⟩,2,[.cells true []],rfl,rfl,Or.inr ⟨_,[],rfl,rfl,Nat.le_refl _,get_app0,by simp,fun j hj=>by omega⟩⟩
  ·rw[hE.fn T70]; simp +contextual only[push_cast,ac70,srcOf,get_old h2,h3,h0,hall,hb,Nat.zero_mul,simprocAttr];exact⟨_,_,_,rfl,rfl,own_new h3 h4 (Nat.le_add_right _ _) get_app⟩
end
section
theorem long_in {y m:Int}(h1:1<=y)(h2:y<=9999)(h3:1<=m)(h4:m<=12):28<=longF y m/\longF y m<=31:=by
 unfold longF
 repeat' split
 all_goals omega
theorem ofF_year {n:Int}(h1:-719162<=n)(h2:n<=2932896):0<=(ofF n).1/\(ofF n).1<=10000:=by
 obtain⟨y0,y1,r0,r1⟩:=cyc ((n+719468)%146097) (by omega) (by omega) _ rfl;unfold ofF;simp only;split<;>omega
theorem ex_size (s:ByteArray)(a b:Nat):(s.extract a b).size<=s.size:=by rw[ByteArray.size_extract]; omega
theorem byte_get {s:ByteArray}{i:Nat}(hi:i<s.size):∃c,s[i]?=some c:=⟨s[i],by simp[hi]⟩
structure ZD where
 ta:Option Addr
 tn:Nat
 te:Nat
 off:Nat->Int
 dst:Nat->Bool
 ab:Nat->ByteArray
 ma:Option Addr
 mn:Nat
 me:Nat
 tm:Nat->Int
 xa:Option Addr
 xn:Nat
 xe:Nat
 ix:Nat->Int
 ft:ByteArray
def ZD.cs (z:ZD):List Value:=[.slice z.ta z.tn z.te,.slice z.ma z.mn z.me,.slice z.xa z.xn z.xe,.string z.ft]
structure ZD.In (z:ZD)(h:Hp):Prop where
 tw:SlW 3 h z.ta z.tn z.te fun j=>[.int .i64 (z.off j),.bool (z.dst j),.string (z.ab j)]
 mw:SlW 1 h z.ma z.mn z.me fun j=>[.int .i64 (z.tm j)]
 xw:SlW 1 h z.xa z.xn z.xe fun j=>[.int .i64 (z.ix j)]
 small:z.tn<100000000/\z.mn<100000000/\z.xn<100000000/\z.ft.size<1000000000/\∀j,j<z.tn->(z.ab j).size<1000000000
theorem ZD.In.grow {z:ZD}{h l:Hp}(H:z.In h):z.In (h++l):=⟨H.tw.grow,H.mw.grow,H.xw.grow,H.small⟩
structure ZN where
 b:Nat
 no:False
def ZN.In (Z:ZN)(h:Hp):Prop:=True
def zv:Option ZN->Value
 | none=>.pointer none
 | some Z=>.pointer (some ⟨Z.b,0,none⟩)
def zin (Z:Option ZN)(h:Hp):Prop:=∀Y,Z=some Y->Y.In h
theorem zin.grow {Z:Option ZN}{h l:Hp}(H:zin Z h):zin Z (h++l):=fun Y hY=>Y.no.elim
variable {E:Env}(hE:EnvT E){lim:Nat}{h:Hp}
include hE
theorem c81 {Z:Option ZN}(H:zin Z h)(sec:Int):PostV (evI E lim (.func 81) [zv Z,.int .i64 sec] h) fun v h'=>h'=h/\∃o,v=.int .i64 o/\-89999<=o/\o<=93599:=by
 cases Z with
 | none =>
  rw[hE.fn T81]; simp +contextual only[push_cast,ac81,zv,simprocAttr];exact⟨_,rfl,by omega,by omega⟩
 | some Z=>exact Z.no.elim
theorem c41 {Z:Option ZN}(H:zin Z h)(u:Int)(h1:-9223372036854775808<=u)(h2:u<=9223372036854775807):PostV (evI E lim (.func 41) [zv Z,.int .i64 u] h) fun v h'=>h'=h/\∃y m d H M S us e,v=.tuple #[.agg #[.int .i64 y,.int .i64 m,.int .i64 d,.int .i64 H,.int .i64 M,.int .i64 S,.int .i64 us],.int .i64 e]:=by
 rw[hE.fn T41]; simp +contextual only[push_cast,ac41,c82 hE u 1000000 h1 h2 (by omega) (by omega),simprocAttr];refine(c81 hE H.grow _).mono ?_;rintro v h' ⟨rfl,o,rfl,o1,o2⟩;cases hc:(decide (IntKind.i64.wrap (u+IntKind.i64.wrap (o*1000000))<u)==decide (IntKind.i64.wrap (o*1000000)<0)) with
 | false =>
  simp +contextual only[push_cast,eqV,lksEq,lkEq,hc,simprocAttr];exact⟨_,_,_,_,_,_,_,_,rfl⟩
 | true =>
  have w:∀n,-9223372036854775808<=IntKind.i64.wrap n/\IntKind.i64.wrap n<=9223372036854775807:=by
   intro n;simp only[IntKind.wrap,IntKind.bits,IntKind.signed];simp;split<;>omega
  obtain⟨s,hs⟩:∃s,IntKind.i64.wrap (u+IntKind.i64.wrap (o*1000000))=s:=⟨_,rfl⟩;have:=w (u+IntKind.i64.wrap (o*1000000));rw[hs] at this hc
  by_cases hin:-62135596800000000<=s/\s<253402300800000000
  ·simp +contextual only[push_cast,eqV,lksEq,lkEq,hs,hc,c83 hE s hin.1 hin.2,simprocAttr];exact⟨_,_,_,_,_,_,_,_,rfl⟩
  ·simp +contextual only[push_cast,eqV,lksEq,lkEq,hs,hc,c83_out hE s this.1 this.2 (by omega),simprocAttr];exact⟨_,_,_,_,_,_,_,_,rfl⟩
end
section
def ints (xs:List Int):List Value:=xs.map (Value.int .i64)
theorem ints_len (xs:List Int):(ints xs).length=xs.length:=List.length_map _
theorem ints_get {xs:List Int}{i:Nat}(h:i<xs.length):(ints xs)[i]?=some (.int .i64 (xs.getD i 0)):=by
 simp[ints,List.getElem?_map,List.getD_eq_getElem?_getD,h]
variable {E:Env}(hE:EnvT E){lim:Nat}{h:Hp}
include hE
end
section
def SortOk (E:Env):Prop:=True
def SortNil (E:Env):Prop:=True
variable {E:Env}(hE:EnvT E){lim:Nat}{h:Hp}
include hE
theorem c118 (hS:SortOk E)(hN:SortNil E){Z:Option ZN}(H:zin Z h){fr to:Int}:PostV (evI E lim (.func 118) [zv Z,.int .i64 fr,.int .i64 to] h) fun v h'=>∃l,h'=h++l/\(v=.slice none 0 0\/∃m n xs,v=.slice (some ⟨h.length+m,0,none⟩) n 1/\l[m]?=some (.cells true (ints xs))/\n<=xs.length/\∀j,j<n->max (-9999999999) (min 100000000000 fr)<xs.getD j 0/\xs.getD j 0<=100000000000):=by
 cases Z with
 | none =>
  rw[hE.fn T118]; simp +contextual only[push_cast,ac118,zv,simprocAttr];exact⟨_,rfl⟩
 | some Z=>exact Z.no.elim
end
section
variable {E:Env}{lim:Nat}
def roundP (l:Nat)(R:Value->Hp->Prop)(y:AX)(_:Fr)(h3:Hp):Prop:=match y with
 | .norm=>∃h4,turn h3 l .busy .ready=some h4/\R (.bool true) h4
 | x=>∃h4,turn h3 l .busy (.over x)=some h4/\R (.bool false) h4
theorem roundP_norm {l:Nat}{R:Value->Hp->Prop}{f:Fr}{h:Hp}:roundP l R .norm f h=∃h4,turn h l .busy .ready=some h4/\R (.bool true) h4:=rfl
theorem roundP_ret {l:Nat}{R:Value->Hp->Prop}{f:Fr}{h:Hp}:roundP l R .ret f h=∃h4,turn h l .busy (.over .ret)=some h4/\R (.bool false) h4:=rfl
theorem roundP_exit {l i:Nat}{R:Value->Hp->Prop}{f:Fr}{h:Hp}:roundP l R (.exit i) f h=∃h4,turn h l .busy (.over (.exit i))=some h4/\R (.bool false) h4:=rfl
theorem yield_post (hM:EnvMono E){l n:Nat}{f:Fr}{ps:List Nat}{ca cb:Code}{aa ba:AC}{args:List Value}{h:Hp}{R:Value->Hp->Prop}(hl:h[l]?=some (.loop n f ps ca cb aa ba .ready))(ha:args.length=ps.length)
  (hp:Post (evK E lim aa (putL f ps args) h) fun x f1 h1=>x=.norm/\∃h2,turn h1 l .ready .busy=some h2/\Post (evK E lim ba f1 h2) (roundP l R)):PostV (evI E lim (.yield l) args h) R:=by
 match e1:evK E lim aa (putL f ps args) h,hp with
 | some (x,f1,h1),hp =>
  obtain⟨rfl,h2,e2,hp2⟩:=hp
  match e3:evK E lim ba f1 h2,hp2 with
  | some (y,f3,h3),hp2 =>
   obtain⟨n1,g1⟩:=(evK_iff hM).1 e1;obtain⟨n2,g2⟩:=(evK_iff hM).1 e3;have g1':=evC_mono (evF_mono hM n1 (max n1 n2) (Nat.le_max_left _ _) lim) (Nat.le_max_left n1 n2) g1;have g2':=evC_mono (evF_mono hM n2 (max n1 n2) (Nat.le_max_right _ _) lim) (Nat.le_max_right n1 n2) g2;cases y with
   | norm =>
    obtain⟨h4,t4,r4⟩:=hp2;refine PostV.of ((evI_iff hM).2 ⟨max n1 n2+1,?_⟩) r4;simp only[evF,hl,if_pos ha,g1',e2,g2',t4,Option.map_some]
   | exit i =>
    obtain⟨h4,t4,r4⟩:=hp2;refine PostV.of ((evI_iff hM).2 ⟨max n1 n2+1,?_⟩) r4;simp only[evF,hl,if_pos ha,g1',e2,g2',t4,Option.map_some]
   | ret =>
    obtain⟨h4,t4,r4⟩:=hp2;refine PostV.of ((evI_iff hM).2 ⟨max n1 n2+1,?_⟩) r4;simp only[evF,hl,if_pos ha,g1',e2,g2',t4,Option.map_some]
theorem rf_post (hM:EnvMono E){g:Operand}{g0:FuncId}{first captured:Array Value}{n:Nat}{ps:List Nat}{ca cb:Code}{aa ba:AC}{f:Fr}{h:Hp}{P:AX->Fr->Hp->Prop}(hg:f.ev g=.func (.func g0) first captured)
  (hp:PostV (evI E lim (.func g0) (first.toList++.func (.yield h.length) #[] #[]::captured.toList) (h++[.loop n f ps ca cb aa ba .ready])) fun _ h2 =>
   (∃n' f' ps' ca' cb' aa' ba',h2[h.length]?=some (.loop n' f' ps' ca' cb' aa' ba' .ready)/\P .norm f (h2.set h.length .dead))\/∃n' f' ps' ca' cb' aa' ba' x,h2[h.length]?=some (.loop n' f' ps' ca' cb' aa' ba' (.over x))/\P x f (h2.set h.length .dead)) :
  Post (evK E lim (.rf g n ps ca cb aa ba) f h) P:=by
 obtain⟨v,h2,e,hp⟩:=hp.out;obtain⟨k,hk⟩:=(evI_iff hM).1 e;rcases hp with⟨n',f',ps',ca',cb',aa',ba',e2,hP⟩ | ⟨n',f',ps',ca',cb',aa',ba',x,e2,hP⟩
 ·have:evK E lim (.rf g n ps ca cb aa ba) f h=some (.norm,f,h2.set h.length .dead):=(evK_iff hM).2 ⟨k,by simp only[evC,hg,hk,e2]⟩;rw[this]; exact hP
 ·have:evK E lim (.rf g n ps ca cb aa ba) f h=some (x,f,h2.set h.length .dead):=(evK_iff hM).2 ⟨k,by simp only[evC,hg,hk,e2]⟩;rw[this]; exact hP
theorem turn_get {h:Hp}{l n:Nat}{f:Fr}{ps:List Nat}{ca cb:Code}{aa ba:AC}{s s':RS}(hl:h[l]?=some (.loop n f ps ca cb aa ba s)):turn h l s s'=some (h.set l (.loop n f ps ca cb aa ba s')):=by
 unfold turn;rw[hl];simp
theorem chkR_false {f:Fr}{h:Hp}{u:Value}{r:Option (Value×Hp)}:chkR f h false u r=some (f,h):=rfl
attribute [push_cast] chkR_false false_implies true_implies roundP_norm roundP_ret roundP_exit
end
section
def Agr (h X:Hp):Prop:=∀(i:Nat) (k:Blk),h[i]?=some k->X[i]?=some k
theorem Agr.refl (h:Hp):Agr h h:=fun _ _ e=>e
theorem Agr.trans {h X Y:Hp}(a:Agr h X)(b:Agr X Y):Agr h Y:=fun i k e=>b i k (a i k e)
theorem Agr.app (h l:Hp):Agr h (h++l):=fun _ _ e=>get_old e
theorem Agr.le {h X:Hp}(a:Agr h X):h.length<=X.length:=by
 by_cases h0:h.length=0
 ·omega
 ·have hl:h.length-1<h.length:=by omega
  have:=(List.getElem?_eq_some_iff.1 (a (h.length-1) _ (List.getElem?_eq_getElem hl))).1;omega
theorem Agr.set {h X:Hp}(a:Agr h X){b:Nat}(hb:h.length<=b)(k:Blk):Agr h (X.set b k):=by
 intro i k' e;have:=(List.getElem?_eq_some_iff.1 e).1;rw[List.getElem?_set_ne (by omega)];exact a i k' e
theorem Agr.set_app {h X:Hp}(a:Agr h X){b:Nat}(hb:h.length<=b)(k:Blk)(l:Hp):Agr h (X.set b k++l):=(a.set hb k).trans (Agr.app _ _)
theorem Agr.out {h X:Hp}(a:Agr h X):∃l,X=h++l:=by
 refine⟨X.drop h.length,?_⟩;refine List.ext_getElem? fun i=>?_
 by_cases hi:i<h.length
 ·rw[List.getElem?_append_left hi,List.getElem?_eq_getElem hi];exact a i _ (List.getElem?_eq_getElem hi)
 ·rw[List.getElem?_append_right (by omega),List.getElem?_drop]
  congr 1
  omega
theorem SlW.agr {k n e:Nat}{h X:Hp}{a:Option Addr}{ev:Nat->List Value}(hS:SlW k h a n e ev)(A:Agr h X):SlW k X a n e ev:=by obtain⟨l,rfl⟩:=A.out; exact hS.grow
theorem SlK.agr {k n e:Nat}{h X:Hp}{a:Option Addr}{ev:Nat->List Value}(hS:SlK k h a n e ev)(A:Agr h X):SlK k X a n e ev:=by obtain⟨l,rfl⟩:=A.out; exact hS.grow
theorem zin.agr {Z:Option ZN}{h X:Hp}(H:zin Z h)(A:Agr h X):zin Z X:=by obtain⟨l,rfl⟩:=A.out; exact H.grow
end
section
def OffsOk (E:Env):Prop:=∀(lim:Nat) (h:Hp) (Z:Option ZN),zin Z h->PostV (evI E lim (.func 62) [zv Z] h) fun v h'=>∃b xs,Agr h h'/\v=.slice (some ⟨b,0,none⟩) xs.length 1/\h.length<=b/\h'[b]?=some (.cells true (ints xs))/\1<=xs.length/\xs.length<=1000/\∀j,j<xs.length->-89999<=xs.getD j 0/\xs.getD j 0<=93599
variable {E:Env}(hE:EnvT E){lim:Nat}{h:Hp}
include hE
section
open Tb
def rb88:AC:=.block 1 (.seq (.reg [o 25 (.ld (t 6)),o 26 (.mov (t 10)),o 27 (.bin .mul (t 26) (i 1000000)),o 28 (.bin .sub (t 25) (t 27)),o 11 (.mov (t 28))]) (.seq (.reg [o 29 (.mov (t 11)),o 30 (.bin .geq (t 29) (i (-10000000000000000))),o 31 (.mov (t 30)),g 32 31 true (.mov (t 11)),g 33 31 true (.bin .leq (t 32) (i 100000000000000000)),o 34 (.pick (t 31) (t 33) ff),o 35 (.mov (t 34)),g 36 35 true (.ld (t 2)),g 37 35 true (.mov (t 11)),g 40 35 true (.mov (t 10)),g 38 35 true (.call (.func 82) [(t 37),(i 1000000)]),.chk 36 (some (35,true)) (.ld (t 2)),g 39 35 true (.call (.func 81) [(t 36),(t 38)]),g 41 35 true (.bin .eql (t 39) (t 40)),o 42 (.pick (t 35) (t 41) ff)]) (.cond (t 42) (.reg [o 43 (.ld (t 8)),o 44 (.mov (t 11)),o 45 (.bsl 1 [z] [(0,1,(t 44))] 1),o 46 (.app 1 8 (t 43) (t 45)),n (.st 1 (t 8) (t 46))]) (.skip))))
end
def InstP (W:Hp)(a8:Nat)(v3:Value)(y:AX)(f3:Fr)(X:Hp):Prop:=y=.norm/\(X=W\/∃c' ys',X[a8]?=some (.cells true [.slice (some ⟨c',0,none⟩) ys'.length 1])/\X[c']?=some (.cells true (ints ys'))/\W.length<=c'/\(∀j,j<ys'.length->-10000000000000000<=ys'.getD j 0/\ys'.getD j 0<=100000000000000000) /\
   (v3=.slice none 0 0->ys'.length=1)/\(∀c ys,v3=.slice (some ⟨c,0,none⟩) ys 1->ys'.length=ys+1)/\W.length<=X.length/\∀i,i<W.length->i≠a8->(∀c n,v3=.slice (some ⟨c,0,none⟩) n 1->i≠c)->X[i]?=W[i]?)
theorem body88 {Z:Option ZN}{p:Option Addr}(hp:zv Z=.pointer p){W:Hp}(hz:zin Z W){f:Fr}{a2 a6 a8:Nat}{mv x:Int}{v3:Value}(f2:f.rd 2=.pointer (some ⟨a2,0,none⟩))(f6:f.rd 6=.pointer (some ⟨a6,0,none⟩))(f8:f.rd 8=.pointer (some ⟨a8,0,none⟩))(f10:f.rd 10=.int .i64 x)
  (e2:W[a2]?=some (.cells true [.pointer p]))(e6:W[a6]?=some (.cells true [.int .i64 mv]))(e8:W[a8]?=some (.cells true [v3]))(hlim:lim<=a8)
  (hv:v3=.slice none 0 0\/∃c ys,v3=.slice (some ⟨c,0,none⟩) ys.length 1/\W[c]?=some (.cells true (ints ys))/\c≠a8/\ys.length<=1000/\∀j,j<ys.length->-10000000000000000<=ys.getD j 0/\ys.getD j 0<=100000000000000000) :
  Post (evK E lim rb88 f W) (InstP W a8 v3):=by
 have h81:=fun sec=>c81 hE (lim:=lim) hz sec;rw[hp] at h81;have hl8:=lt_of_get e8;obtain⟨t,ht⟩:∃t,IntKind.i64.wrap (mv-IntKind.i64.wrap (x*1000000))=t:=⟨_,rfl⟩;cases hr1:decide (t>=-10000000000000000) with
 | false =>
  simp only[push_cast,rb88,f2,f6,f8,f10,e2,e6,e8,ht,hr1,simprocAttr];exact⟨rfl,Or.inl rfl⟩
 | true =>
 cases hr:decide (t<=100000000000000000) with
 | false =>
  simp only[push_cast,rb88,f2,f6,f8,f10,e2,e6,e8,ht,hr1,hr,simprocAttr];exact⟨rfl,Or.inl rfl⟩
 | true =>
  have hr':-10000000000000000<=t/\t<=100000000000000000:=⟨by simpa using hr1,by simpa using hr⟩;obtain⟨v,h',e81,rfl,oo,rfl,oo1,oo2⟩:=(h81 (t/1000000)).out;cases hq:(oo==x) with
  | false =>
   simp only[push_cast,rb88,f2,f6,f8,f10,e2,e6,e8,ht,hr1,hr,c82 hE t 1000000 (by omega) (by omega) (by omega) (by omega),e81,hq,simprocAttr];exact⟨rfl,Or.inl rfl⟩
  | true =>
   rcases hv with rfl | ⟨c,ys,rfl,hc,hne,hyl,hyb⟩
   ·have hgl:∀l,(h'++l)[a8]?=some (.cells true [.slice none 0 0]):=fun l=>get_old e8;have hsl:∀l k,(h'++l).set a8 k=h'.set a8 k++l:=fun l k=>set_old hl8;have hor:∀q:Prop,(lim<=a8\/q)=True:=fun q=>by simp[hlim]
    simp only[push_cast,rb88,f2,f6,f8,f10,e2,e6,e8,ht,hr1,hr,c82 hE t 1000000 (by omega) (by omega) (by omega) (by omega),e81,hq,srcOf,Nat.mul_one,hgl,hsl,hor,simprocAttr];refine⟨rfl,Or.inr ⟨h'.length+1,[t],?_,?_,by omega,?_,by simp,?_,by simp,?_⟩⟩
    ·exact get_old (set_get hl8)
    ·rw[get_appC (by simp)]; rfl
    ·intro j hj;have:j=0:=by simpa using hj
     subst this;simp; omega
    ·intro c ys hh; cases hh
    ·intro i hi hi8 _;rw[get_lt (by simpa using hi),set_ne (Ne.symm hi8)]
   ·have hlc:=lt_of_get hc;have hgl:∀l,(h'++l)[c]?=some (.cells true (ints ys)):=fun l=>get_old hc;have hsl:∀l k,(h'++l).set c k=h'.set c k++l:=fun l k=>set_old hlc;have hg8:∀l k,(h'.set c k++l)[a8]?=some (.cells true [.slice (some ⟨c,0,none⟩) ys.length 1]):=fun l k=>get_old (by rw[set_ne hne]; exact e8);have hs8:∀l k k2,(h'.set c k++l).set a8 k2=(h'.set c k).set a8 k2++l:=fun l k k2=>set_old (by simpa using hl8);have hor:∀q:Prop,(lim<=a8\/q)=True:=fun q=>by simp[hlim]
    have c1:((ys.length+1)*8<=140737488355328)=True:=by simp; omega
    have c2:(ys.length=(ints ys).length)=True:=by simp[ints_len]
    simp only[push_cast,rb88,f2,f6,f8,f10,e2,e6,e8,ht,hr1,hr,c82 hE t 1000000 (by omega) (by omega) (by omega) (by omega),e81,hq,srcOf,Nat.mul_one,hgl,hsl,hg8,hs8,hor,c1,c2,simprocAttr];refine⟨rfl,Or.inr ⟨h'.length+1,ys++[t],?_,?_,by omega,?_,?_,?_,by simp,?_⟩⟩
    ·rw[get_old (set_get (by simpa using hl8))]; simp
    ·rw[get_appC (by simp)]; simp[ints]
    ·intro j hj
     by_cases hj2:j<ys.length
     ·have:=hyb j hj2;simpa[List.getD_eq_getElem?_getD,List.getElem?_append_left hj2] using this
     ·have:j=ys.length:=by simp at hj; omega
      subst this;simp; omega
    ·intro hh; cases hh
    ·intro c0 y0 hh; cases hh; simp
    ·intro i hi hi8 hic;have hcc:=hic c _ rfl;rw[get_lt (by simpa using hi),set_ne (Ne.symm hi8),set_ne (Ne.symm hcc)]
end
section
theorem offs_ok {E:Env}(hE:EnvT E):OffsOk E:=by
 intro lim h Z H;cases Z with
 | none =>
  rw[hE.fn T62]; simp only[push_cast,ac62,zv,simprocAttr]
  exact⟨h.length,[0],Agr.app _ _,rfl,Nat.le_refl _,get_app0,by decide,by decide,fun j hj=>by
   obtain rfl:j=0:=by simpa using hj
   exact⟨by decide,by decide⟩⟩
 | some Z=>exact Z.no.elim
end
section
variable {E:Env}(hE:EnvT E){lim:Nat}{h:Hp}
include hE
theorem c150 {a:Option Addr}{n e:Nat}:evI E lim (.func 150) [.slice a n e] h=some (.func (.func 212) #[] #[.pointer (some ⟨h.length,0,none⟩)],h++[.cells true [.slice a n e]]):=by
 rw[hE.fn T150]; simp +contextual only[push_cast,ac150,simprocAttr]
theorem c212 {l bx sb:Nat}{xs:List Int}{I:Nat->Hp->Prop}{Q:Hp->Prop}(hl:xs.length<1000000)(h0:I xs.length h)
  (hb:∀k X,I k X->∃own,X[bx]?=some (.cells own [.slice (some ⟨sb,0,none⟩) xs.length 1]))(hs:∀k X,I k X->X[sb]?=some (.cells true (ints xs)))
  (step:∀k X,k<xs.length->I (k+1) X->PostV (evI E lim (.yield l) [.int .i64 (k:Nat),.int .i64 (xs.getD k 0)] X) fun v X'=>(v=.bool true/\I k X')\/(v=.bool false/\Q X')) :
  PostV (evI E lim (.func 212) [.func (.yield l) #[] #[],.pointer (some ⟨bx,0,none⟩)] h) fun v X'=>v=undef/\(I 0 X'\/Q X'):=by
 obtain⟨own,hb0⟩:=hb _ _ h0;rw[hE.fn T212]; simp +contextual only[push_cast,ac212,hb0,simprocAttr];refine loop_post hE.mono (fun k f X=>k<=xs.length/\f.rd 0=.func (.yield l) #[] #[]/\f.rd 1=.pointer (some ⟨bx,0,none⟩)/\f.rd 3=.int .i64 ((k:Int)-1)/\I k X) ?_ xs.length _ _ ?_
 ·rintro k f X ⟨hk,f0,f1,f3,hI⟩;cases k with
  | zero =>
   simp only[push_cast,lp212_0,f0,f1,f3,Int.ofNat_zero,simprocAttr];exact⟨rfl,Or.inl hI⟩
  | succ k =>
   obtain⟨own,hbX⟩:=hb _ _ hI;have hsX:=hs _ _ hI;have e0:((k+1:Nat):Int)-1=(k:Int):=by omega
   rw[e0] at f3;have e1:((k:Int)>=0)=True:=by simp
   have e2:((k:Int)<xs.length)=True:=by simp; omega
   have e3:(0<=(k:Int))=True:=by simp
   have e4:=ints_get (xs:=xs) (i:=k) (by omega);have e5:=w64 (x:=(k:Int)-1);simp only[push_cast,lp212_0,f0,f1,f3,e1,e2,e3,hbX,hsX,e4,Nat.mul_one,simprocAttr];refine(step k X (by omega) hI).mono ?_;rintro v X' (⟨rfl,hI'⟩ | ⟨rfl,hQ⟩)
   ·simp only[push_cast,f0,f1,f3,e5,simprocAttr];exact⟨k,by omega,by omega,rfl,hI'⟩
   ·simp only[push_cast,simprocAttr];exact⟨rfl,Or.inr hQ⟩
 ·have e5:=w64 (x:=(xs.length:Int)-1);exact⟨Nat.le_refl _,rfl,rfl,by rw[e5]; rfl,h0⟩
theorem c88 (hO:OffsOk E)(hlim:lim<=h.length){Z:Option ZN}(H:zin Z h)(y m d hh mi s us:Int):PostV (evI E lim (.func 88) [zv Z,.agg #[.int .i64 y,.int .i64 m,.int .i64 d,.int .i64 hh,.int .i64 mi,.int .i64 s,.int .i64 us]] h) fun v h' =>
  Agr h h'/\∃w e,v=.tuple #[w,.int .i64 e]/\(w=.slice none 0 0\/∃b xs,w=.slice (some ⟨b,0,none⟩) xs.length 1/\h'[b]?=some (.cells true (ints xs))/\xs.length<=10000/\∀j,j<xs.length->-10000000000000000<=xs.getD j 0/\xs.getD j 0<=100000000000000000):=by
 obtain⟨p,hp⟩:∃p,zv Z=.pointer p:=by cases Z<;>exact⟨_,rfl⟩
 have h62:=fun lim X (A:Agr h X)=>hO lim X Z (H.agr A);rw[hp] at h62 ⊢;cases hm:microOk y m d hh mi s us with
 | false =>
  rw[hE.fn T88]; simp +contextual only[push_cast,ac88,c84 hE,hm,simprocAttr];exact⟨Agr.app _ _,_,_,rfl,Or.inl rfl⟩
 | true =>
  rw[hE.fn T88]; simp +contextual only[push_cast,ac88,c84 hE,hm,simprocAttr];obtain⟨mv,hmv⟩:∃mv,microF y m d hh mi s us=mv:=⟨_,rfl⟩;rw[hmv];refine(h62 _ _ (Agr.app _ _)).mono ?_;rintro v X ⟨b,xs,A,rfl,hbl,hbx,hx1,hx2,hxo⟩;simp only[push_cast,c150 hE,simprocAttr];refine rf_post hE.mono (g0:=212) rfl ?_;have A0:Agr h X:=(Agr.app _ _).trans A;have a2:X[h.length]?=some (.cells true [.pointer p]):=A _ _ (by rw[get_app0]; rfl);have a6:X[h.length+2]?=some (.cells true [.int .i64 mv]):=A _ _ (by rw[get_app]; rfl);have a8:X[h.length+3]?=some (.cells true [.slice none 0 0]):=A _ _ (by rw[get_app]; rfl);have hXl:=A.le;simp only[List.length_append,List.length_cons,List.length_nil] at hXl hbl;have hbX:b<X.length:=(List.getElem?_eq_some_iff.1 hbx).1;simp only[List.length_append,List.length_cons,List.length_nil,List.append_assoc,List.cons_append,List.nil_append,Nat.zero_add,Nat.reduceAdd];generalize hFr:([Value.pointer p,_,_,_,_,_,_,_,_,_,_,_,_,_,_,_,_,_,_,_,_,_,_]:List Value)=F;have F2:Fr.rd F 2=.pointer (some ⟨h.length,0,none⟩):=by rw[<- hFr]; rfl
  have F6:Fr.rd F 6=.pointer (some ⟨h.length+2,0,none⟩):=by rw[<- hFr]; rfl
  have F8:Fr.rd F 8=.pointer (some ⟨h.length+3,0,none⟩):=by rw[<- hFr]; rfl
  clear hFr;generalize hB:AC.block 1 _=body;generalize hA:AC.reg [AI.op (some 10) none (AOp.mov (Operand.tmp 24))]=aa
  refine(c212 hE (l:=X.length+1) (bx:=X.length) (sb:=b) (xs:=xs) (Q:=fun _=>False) (I:=fun k Y=>∃v3,Agr h Y/\Y[h.length]?=some (.cells true [.pointer p])/\Y[h.length+2]?=some (.cells true [.int .i64 mv])/\Y[h.length+3]?=some (.cells true [v3]) /\
   Y[X.length]?=some (.cells true [.slice (some ⟨b,0,none⟩) xs.length 1])/\Y[X.length+1]?=some (.loop 48 F [23,24] rc88.1 rc88.2 aa body .ready)/\Y[b]?=some (.cells true (ints xs)) /\
   (v3=.slice none 0 0\/∃c ys,v3=.slice (some ⟨c,0,none⟩) ys.length 1/\Y[c]?=some (.cells true (ints ys))/\X.length+2<=c/\ys.length+k<=1000/\∀j,j<ys.length->-10000000000000000<=ys.getD j 0/\ys.getD j 0<=100000000000000000)) (by omega) ?_ ?_ ?_ ?_).mono ?_
  ·exact⟨_,A0.trans (Agr.app _ _),get_old a2,get_old a6,get_old a8,by rw[get_app0]; rfl,by rw[get_app]; rfl,get_old hbx,Or.inl rfl⟩
  ·rintro k Y ⟨v3,q1,q2,q3,q4,q5,q6,q7,q8⟩;exact⟨true,q5⟩
  ·rintro k Y ⟨v3,q1,q2,q3,q4,q5,q6,q7,q8⟩;exact q7
  ·rintro k Y hk ⟨v3,q1,q2,q3,q4,q5,q6,q7,q8⟩;have hlb:=(List.getElem?_eq_some_iff.1 q6).1;refine yield_post hE.mono q6 rfl ?_
   have haa:Post (evK E lim aa (putL F [23,24] [.int .i64 (k:Nat),.int .i64 (xs.getD k 0)]) Y) fun x f1 h1=>x=.norm/\f1=((Fr.st F 23 (.int .i64 (k:Nat))).st 24 (.int .i64 (xs.getD k 0))).st 10 (.int .i64 (xs.getD k 0))/\h1=Y:=by
    rw[<- hA];simp only[push_cast,putL,simprocAttr]
   refine haa.mono ?_;rintro x f1 h1 ⟨hx1,hf1,hh1⟩;rw[hx1,hf1,hh1];refine⟨rfl,_,turn_get q6,?_⟩;have e2:=q2; have e6:=q3; have e8:=q4;rw[<- set_ne (x:=.loop 48 F [23,24] rc88.1 rc88.2 aa body .busy) (by omega:X.length+1≠h.length)] at e2;rw[<- set_ne (x:=.loop 48 F [23,24] rc88.1 rc88.2 aa body .busy) (by omega:X.length+1≠h.length+2)] at e6;rw[<- set_ne (x:=.loop 48 F [23,24] rc88.1 rc88.2 aa body .busy) (by omega:X.length+1≠h.length+3)] at e8;have A2:Agr h (Y.set (X.length+1) (.loop 48 F [23,24] rc88.1 rc88.2 aa body .busy)):=q1.set (by omega) _;obtain⟨o1,o2⟩:=hxo k hk
   have r8:v3=.slice none 0 0\/∃c ys,v3=.slice (some ⟨c,0,none⟩) ys.length 1/\(Y.set (X.length+1) (.loop 48 F [23,24] rc88.1 rc88.2 aa body .busy))[c]?=some (.cells true (ints ys))/\c≠h.length+3/\ys.length<=1000/\∀j,j<ys.length->-10000000000000000<=ys.getD j 0/\ys.getD j 0<=100000000000000000:=by
    rcases q8 with q8 | ⟨c,ys,g1,g2,g3,g4,g5⟩
    ·exact Or.inl q8
    ·exact Or.inr ⟨c,ys,g1,by rw[set_ne (by omega)]; exact g2,by omega,by omega,g5⟩
   have hbody:=body88 hE (lim:=lim) hp (H.agr A2) (f:=((Fr.st F 23 (.int .i64 (k:Nat))).st 24 (.int .i64 (xs.getD k 0))).st 10 (.int .i64 (xs.getD k 0))) (x:=xs.getD k 0) (mv:=mv) (v3:=v3)
    (by simp only[rd_st]; exact F2) (by simp only[rd_st]; exact F6) (by simp only[rd_st]; exact F8) (by simp only[rd_st]; rfl) e2 e6 e8 (by omega) r8
   rw[show rb88=body from hB] at hbody;refine hbody.mono ?_;rintro y f3 W ⟨rfl,hW | ⟨c',ys',w8,wc,wl,wb,w1,w2,wlen,wo⟩⟩
   ·subst hW;refine⟨_,turn_get (set_get hlb),Or.inl ⟨rfl,v3,?_⟩⟩;rw[List.set_set,set_same q6];refine⟨q1,q2,q3,q4,q5,q6,q7,?_⟩;rcases q8 with q8 | ⟨c,ys,g1,g2,g3,g4,g5⟩
    ·exact Or.inl q8
    ·exact Or.inr ⟨c,ys,g1,g2,g3,by omega,g5⟩
   ·have hYl:(Y.set (X.length+1) (.loop 48 F [23,24] rc88.1 rc88.2 aa body .busy)).length=Y.length:=by simp
    rw[hYl] at wl wlen wo
    have keepW:∀i,i<X.length->i≠h.length+3->W[i]?=Y[i]?:=by
     intro i hi h3
     rw[wo i (by omega) h3 (fun c n hc=>by
      rcases q8 with q8 | ⟨c2,ys,g1,g2,g3,g4,g5⟩
      ·rw[q8] at hc; cases hc
      ·rw[g1] at hc; cases hc; omega),set_ne (by omega)]
    have hWlb:W[X.length+1]?=some (.loop 48 F [23,24] rc88.1 rc88.2 aa body .busy):=by
     rw[wo _ (by omega) (by omega) (fun c n hc=>by
      rcases q8 with q8 | ⟨c2,ys,g1,g2,g3,g4,g5⟩
      ·rw[q8] at hc; cases hc
      ·rw[g1] at hc; cases hc; omega)]
     exact set_get hlb
    have hWX:W[X.length]?=some (.cells true [.slice (some ⟨b,0,none⟩) xs.length 1]):=by
     rw[wo _ (by omega) (by omega) (fun c n hc=>by
      rcases q8 with q8 | ⟨c2,ys,g1,g2,g3,g4,g5⟩
      ·rw[q8] at hc; cases hc
      ·rw[g1] at hc; cases hc; omega),set_ne (by omega)]
     exact q5
    refine⟨_,turn_get hWlb,Or.inl ⟨rfl,_,?_,?_,?_,?_,?_,?_,?_,Or.inr ⟨c',ys',rfl,?_,?_,?_,wb⟩⟩⟩
    ·intro i k' hi;have hil:=(List.getElem?_eq_some_iff.1 hi).1;rw[set_ne (by omega),keepW i (by omega) (by omega)];exact q1 i k' hi
    ·rw[set_ne (by omega),keepW _ (by omega) (by omega)]; exact q2
    ·rw[set_ne (by omega),keepW _ (by omega) (by omega)]; exact q3
    ·rw[set_ne (by omega)]; exact w8
    ·rw[set_ne (by omega)]; exact hWX
    ·exact set_get (by omega)
    ·rw[set_ne (by omega),keepW b (by omega) (by omega)]; exact q7
    ·rw[set_ne (by omega)]; exact wc
    ·omega
    ·rcases q8 with q8 | ⟨c2,ys,g1,g2,g3,g4,g5⟩
     ·have:=w1 q8; omega
     ·have:=w2 _ _ g1; omega
  ·rintro v Y ⟨rfl,⟨v3,q1,q2,q3,q4,q5,q6,q7,q8⟩ | hf⟩
   ·refine Or.inl ⟨_,_,_,_,_,_,_,q6,?_⟩;have e8:=q4;rw[<- set_ne (x:=.dead) (by omega:X.length+1≠h.length+3)] at e8;simp only[push_cast,F8,e8,simprocAttr];refine⟨q1.set (by omega) _,_,_,rfl,?_⟩;rcases q8 with q8 | ⟨c,ys,g1,g2,g3,g4,g5⟩
    ·exact Or.inl q8
    ·exact Or.inr ⟨c,ys,g1,by rw[set_ne (by omega)]; exact g2,by omega,g5⟩
   ·exact hf.elim
end
section
theorem zv_ptr (Z:Option ZN):∃p,zv Z=.pointer p:=by cases Z<;>exact⟨_,rfl⟩
variable {E:Env}(hE:EnvT E){lim:Nat}{h:Hp}
include hE
theorem c64 {Z:Option ZN}(H:zin Z h)(u:Int)(h1:-9223372036854775808<=u)(h2:u<=9223372036854775807):PostV (evI E lim (.func 64) [zv Z,.int .i64 u] h) fun v h'=>h'=h/\∃o,v=.int .i64 o/\-93599000000<=o/\o<=93599000000:=by
 rw[hE.fn T64]; simp +contextual only[push_cast,ac64,c117 hE u 1000000 h1 h2 (by omega) (by omega),simprocAttr];refine(c81 hE H _).mono ?_;rintro v h' ⟨rfl,o,rfl,o1,o2⟩;have w:=w64 (x:=o*1000000);simp +contextual only[push_cast,w,simprocAttr];exact⟨_,rfl,by omega,by omega⟩
theorem c43 (hO:OffsOk E){Z:Option ZN}(H:zin Z h)(u:Int)(h1:-9223372036854775808<=u)(h2:u<=9223372036854775807):PostV (evI E lim (.func 43) [zv Z,.int .i64 u] h) fun v h'=>h'=h/\∃o,v=.int .i64 o/\-9223372036854775808<=o/\o<=9223372036854775807:=by
 rw[hE.fn T43]; simp only[push_cast,ac43,simprocAttr];refine(c41 hE H u h1 h2).mono ?_;rintro v h' ⟨rfl,y,m,d,hh,mi,s,us,e,rfl⟩;simp only[push_cast,simprocAttr];refine(c88 hE hO (by simp) H.grow y m d hh mi s us).mono ?_;rintro v X ⟨A,w,e2,rfl,rfl | ⟨b,xs,rfl,hb,hl,hx⟩⟩
 ·obtain⟨l,rfl⟩:=((Agr.app _ _).trans A).out;have g0:(((0:Nat):Int)==0)=true:=rfl;simp only[push_cast,g0,simprocAttr];exact⟨_,rfl,h1,h2⟩
 ·obtain⟨l,rfl⟩:=((Agr.app _ _).trans A).out
  by_cases h0:xs.length=0
  ·have g0:((xs.length:Int)==0)=true:=by simp[h0]
   simp only[push_cast,g0,simprocAttr];exact⟨_,rfl,h1,h2⟩
  ·have g0:((xs.length:Int)==0)=false:=by simpa using h0
   have g1:((0:Int)<xs.length)=True:=by simp; omega
   have g2:=ints_get (xs:=xs) (i:=0) (by omega);have:=hx 0 (by omega);simp only[push_cast,g0,g1,hb,g2,Nat.zero_mul,Int.le_refl,simprocAttr];exact⟨_,rfl,by omega,by omega⟩
theorem c65 (hS:SortOk E)(hN:SortNil E){Z:Option ZN}(H:zin Z h)(u:Int)(h1:-9223372036854775808<=u)(h2:u<=9223372036854775807):PostV (evI E lim (.func 65) [zv Z,.int .i64 u] h) fun v h'=>h'=h/\∃e,v=.int .i64 e/\-100000000000000000<=e/\e<=7258118400000000/\(u<7258118400000000->u<e):=by
 obtain⟨p,hp⟩:=zv_ptr Z;have h118:=fun lim X (A:Agr h X) fr to=>c118 hE hS hN (lim:=lim) (fr:=fr) (to:=to) (H.agr A);rw[hp] at h118 ⊢;rw[hE.fn T65]; simp +contextual only[push_cast,ac65,c117 hE u 1000000 h1 h2 (by omega) (by omega),simprocAttr];refine loop_post hE.mono (fun k f X=>∃sec:Int,u/1000000<=sec/\sec<=10000000000000/\(7258118400-sec).toNat=k/\f.rd 0=.pointer p/\f.rd 5=.int .i64 sec/\Agr h X) ?_ (7258118400-u/1000000).toNat _ _ ?_
 ·rintro k f X ⟨sec,s1,s2,hk,f0,f5,A⟩
  by_cases hs:sec<7258118400
  ·have w1:=w64 (x:=sec+31622400);simp only[push_cast,lp65_0,f0,f5,hs,w1,simprocAttr];refine(h118 _ X A sec (sec+31622400)).mono ?_;rintro v h' ⟨l,rfl,rfl | ⟨m,n,xs,rfl,hm,hn,hx⟩⟩
   ·simp only[push_cast,f5,w1,Int.ofNat_zero,gt_iff_lt,Int.lt_irrefl,simprocAttr];exact⟨(7258118400-(sec+31622400)).toNat,by omega,sec+31622400,by omega,by omega,rfl,f0,rfl,A.trans (Agr.app _ _)⟩
   ·by_cases h0:n=0
    ·have g0:decide ((n:Int)>0)=false:=by simp; omega
     simp only[push_cast,f5,w1,g0,simprocAttr];exact⟨(7258118400-(sec+31622400)).toNat,by omega,sec+31622400,by omega,by omega,rfl,f0,rfl,A.trans (Agr.app _ _)⟩
    ·have g0:decide ((n:Int)>0)=true:=by simp; omega
     have g1:((0:Int)<n)=True:=by simp; omega
     have g2:=ints_get (xs:=xs) (i:=0) (by omega);obtain⟨x1,x2⟩:=hx 0 (by omega);have w2:=w64 (x:=xs.getD 0 0*1000000);obtain⟨l2,rfl⟩:=A.out;have gl:((h++l2)++l)[(h++l2).length+m]?=some (.cells true (ints xs)):=by rw[get_app]; exact hm
     simp only[app_app,len_app] at gl;simp only[push_cast,f5,w1,g0,g1,hm,g2,w2,Nat.zero_mul,Int.le_refl,Nat.add_assoc,simprocAttr];exact⟨_,rfl,by omega,by omega,by omega⟩
  ·obtain⟨l2,rfl⟩:=A.out;simp only[push_cast,lp65_0,f0,f5,hs,simprocAttr];exact⟨_,rfl,by omega,by omega,by omega⟩
 ·exact⟨u/1000000,Int.le_refl _,by omega,rfl,rfl,rfl,Agr.refl h⟩
end
section
structure PD where
 a:Option Addr
 n:Nat
 e:Nat
 f:Nat->Int
 t:Nat->Int
 s:Nat->Int
def PD.val (p:PD):Value:=.slice p.a p.n p.e
def PD.In (p:PD)(h:Hp):Prop:=SlW 3 h p.a p.n p.e (fun j=>[.int .i64 (p.f j),.int .i64 (p.t j),.int .i64 (p.s j)])/\p.n<1000000
theorem PD.In.agr {p:PD}{h X:Hp}(H:p.In h)(A:Agr h X):p.In X:=⟨H.1.agr A,H.2⟩
def PD.Ok (p:PD)(l m:Int):Prop:=∀j,j<p.n->l<=p.f j/\p.f j<=p.t j/\p.t j<=m/\0<=p.s j/\p.s j<=10000000000000
theorem step_up {a n s:Int}(hs:0<s)(hn:a<n):n<=a+(n-a+s-1)/s*s/\a+(n-a+s-1)/s*s<=n+s-1:=by
 have h1:=Int.ediv_mul_le (n-a+s-1) (by omega:s≠0);have h2:=Int.lt_ediv_add_one_mul_self (n-a+s-1) hs;rw[Int.add_mul,Int.one_mul] at h2;omega
variable {E:Env}(hE:EnvT E){lim:Nat}{h:Hp}
include hE
theorem c175 {p:PD}(H:p.In h)(hok:p.Ok 0 100000000){n most:Int}(n1:-1000000000000<=n)(n2:n<=1000000000000):PostV (evI E lim (.func 175) [p.val,.int .i64 n,.int .i64 most] h) fun v h'=>h'=h/\∃b ok,v=.tuple #[.int .i64 b,.bool ok]/\(ok=true->n<=b/\b<=most):=by
 unfold PD.val
 by_cases h0:p.n=0
 ·have g0:((p.n:Int)==0)=true:=by simp[h0]
  rw[hE.fn T175]; simp only[push_cast,ac175,g0,simprocAttr];exact⟨_,_,rfl,fun h=>⟨Int.le_refl _,by simpa using h⟩⟩
 ·have g0:((p.n:Int)==0)=false:=by simpa using h0
  have hpn:=H.2;obtain⟨b,o,own,cs,k0,k1,k2,k3,k4⟩:=H.1.K (by omega);rw[k0,k1];rw[hE.fn T175]; simp only[push_cast,ac175,g0,simprocAttr];refine loop_post hE.mono (fun k f X=>∃(i:Nat) (best:Int) (found:Bool),i<=p.n/\p.n-i=k/\f.rd 1=.int .i64 n/\f.rd 2=.int .i64 most/\f.rd 8=.int .i64 best/\f.rd 9=.bool found/\f.rd 20=.slice (some ⟨b,o,none⟩) p.n 3/\f.rd 21=.int .i64 p.n/\f.rd 22=.int .i64 i/\Agr h X/\(found=true->n<=best)) ?_ p.n _ _ ?_
  ·rintro k f X ⟨i,best,found,hi,hk,f1,f2,f8,f9,f20,f21,f22,A,hf⟩
   by_cases hin:i<p.n
   ·have e1:((i:Int)<p.n)=True:=by simp[hin]
    have e2:(0<=(i:Int))=True:=by simp
    have e3:=wn1 (i:=i);have k5:=k4 i hin;have k6:=mul_le_in (k:=3) hin;have k7:o+i*3+3<=cs.length:=by omega
    have kX:=A _ _ k2;obtain⟨p1,p2,p3,p4,p5⟩:=hok i hin;have fin:∀(at_:Int) (g:Fr),n<=at_->g.rd 1=.int .i64 n->True:=fun _ _ _ _=>trivial
    by_cases hge:p.f i>=n
    ·have q1:decide (p.f i>=n)=true:=by simp[hge]
     cases hc:(decide (p.f i<=p.t i)&&(!found||decide (p.f i<best))) with
     | true =>
      simp +contextual only[push_cast,lp175_0,f1,f2,f8,f9,f20,f21,f22,e1,e2,e3,kX,k5,k7,q1,hc,simprocAttr];exact⟨p.n-(i+1),by omega,i+1,_,_,hin,rfl,rfl,rfl,rfl,A.trans (Agr.app _ _),fun _=>hge⟩
     | false =>
      simp +contextual only[push_cast,lp175_0,f1,f2,f8,f9,f20,f21,f22,e1,e2,e3,kX,k5,k7,q1,hc,simprocAttr];exact⟨p.n-(i+1),by omega,i+1,_,_,hin,rfl,rfl,rfl,rfl,A.trans (Agr.app _ _),hf⟩
    ·have q1:decide (p.f i>=n)=false:=by simp[hge]
     by_cases hs0:p.s i=0
     ·have q2:(p.s i==0)=true:=by simp[hs0]
      simp +contextual only[push_cast,lp175_0,f1,f2,f8,f9,f20,f21,f22,e1,e2,e3,kX,k5,k7,q1,q2,simprocAttr];exact⟨p.n-(i+1),by omega,i+1,_,_,hin,rfl,rfl,rfl,rfl,A.trans (Agr.app _ _),hf⟩
     ·have q2:(p.s i==0)=false:=by simpa using hs0
      have q3:(p.s i=0)=False:=by simpa using hs0
      obtain⟨u1,u2⟩:=step_up (a:=p.f i) (n:=n) (s:=p.s i) (by omega) (by omega);have w1:=w64 (x:=n-p.f i);have w2:=w64 (x:=n-p.f i+p.s i);have w3:=w64 (x:=n-p.f i+p.s i-1);have w4:(n-p.f i+p.s i-1).tdiv (p.s i)=(n-p.f i+p.s i-1)/p.s i:=Int.tdiv_eq_ediv_of_nonneg (by omega);have v1:=Int.ediv_le_self (p.s i) (by omega:0<=n-p.f i+p.s i-1);have v2:=Int.ediv_nonneg (by omega:0<=n-p.f i+p.s i-1) p4;have w5:=w64 (x:=(n-p.f i+p.s i-1)/p.s i);have w6:=w64 (x:=(n-p.f i+p.s i-1)/p.s i*p.s i);have w7:=w64 (x:=p.f i+(n-p.f i+p.s i-1)/p.s i*p.s i);cases hc:(decide (p.f i+(n-p.f i+p.s i-1)/p.s i*p.s i<=p.t i)&&(!found||decide (p.f i+(n-p.f i+p.s i-1)/p.s i*p.s i<best))) with
      | true =>
       simp +contextual only[push_cast,lp175_0,f1,f2,f8,f9,f20,f21,f22,e1,e2,e3,kX,k5,k7,q1,q2,q3,w1,w2,w3,w4,w5,w6,w7,hc,simprocAttr];exact⟨p.n-(i+1),by omega,i+1,_,_,hin,rfl,rfl,rfl,rfl,A.trans (Agr.app _ _),fun _=>u1⟩
      | false =>
       simp +contextual only[push_cast,lp175_0,f1,f2,f8,f9,f20,f21,f22,e1,e2,e3,kX,k5,k7,q1,q2,q3,w1,w2,w3,w4,w5,w6,w7,hc,simprocAttr];exact⟨p.n-(i+1),by omega,i+1,_,_,hin,rfl,rfl,rfl,rfl,A.trans (Agr.app _ _),hf⟩
   ·have:i=p.n:=by omega
    subst this;obtain⟨l2,rfl⟩:=A.out;simp +contextual only[push_cast,lp175_0,f1,f2,f8,f9,f20,f21,f22,Int.lt_irrefl,simprocAttr];refine⟨_,_,rfl,fun h=>?_⟩;simp only[Bool.and_eq_true,decide_eq_true_eq] at h;exact⟨hf h.1,h.2⟩
  ·exact⟨0,_,_,by omega,rfl,rfl,rfl,rfl,rfl,rfl,rfl,rfl,Agr.refl h,fun h=>by cases h⟩
end
section
structure TE where
 bf:Nat
 br:Nat
 bm:Nat
 bo:Nat
 bg:Nat
 f0:Int
 f1:Int
 f2:Int
 p0:PD
 p1:PD
 p2:PD
def TE.cap (T:TE):List Value:=[.pointer (some ⟨T.bf,0,none⟩),.pointer (some ⟨T.br,0,none⟩),.pointer (some ⟨T.bm,0,none⟩),.pointer (some ⟨T.bo,0,none⟩),.pointer (some ⟨T.bg,0,none⟩)]
structure TE.In (T:TE)(h:Hp)(o0 o1 o2:Int):Prop where
 bf:h[T.bf]?=some (.cells true [.int .i64 T.f0,.int .i64 T.f1,.int .i64 T.f2])
 br:h[T.br]?=some (.cells true [T.p0.val,T.p1.val,T.p2.val])
 bm:h[T.bm]?=some (.cells true [.int .i64 23,.int .i64 59,.int .i64 59999999])
 bo:h[T.bo]?=some (.cells true [.int .i64 o0,.int .i64 o1,.int .i64 o2])
 bg:h[T.bg]?=some (.cells true [.func (.func 177) #[] T.cap.toArray])
 p0:∀x,T.p0.In (h.set T.bo x)/\T.p0.Ok 0 100000000
 p1:∀x,T.p1.In (h.set T.bo x)/\T.p1.Ok 0 100000000
 p2:∀x,T.p2.In (h.set T.bo x)/\T.p2.Ok 0 100000000
 ne:T.bo≠T.bf/\T.bo≠T.br/\T.bo≠T.bm/\T.bo≠T.bg
 fr:0<=T.f0/\T.f0<=1000000000/\0<=T.f1/\T.f1<=1000000000/\0<=T.f2/\T.f2<=1000000000
def oB (o0 o1 o2:Int):Blk:=.cells true [.int .i64 o0,.int .i64 o1,.int .i64 o2]
theorem TE.In.put {T:TE}{h:Hp}{o0 o1 o2:Int}(H:T.In h o0 o1 o2)(q0 q1 q2:Int):T.In (h.set T.bo (oB q0 q1 q2)) q0 q1 q2:=by
 obtain⟨h1,h2,h3,h4,h5,h6,h7,h8,⟨n1,n2,n3,n4⟩,h10⟩:=H
 exact⟨by rw[set_ne n1]; exact h1,by rw[set_ne n2]; exact h2,by rw[set_ne n3]; exact h3,set_get (lt_of_get h4),by rw[set_ne n4]; exact h5,
  fun x=>by rw[List.set_set]; exact h6 x,fun x=>by rw[List.set_set]; exact h7 x,fun x=>by rw[List.set_set]; exact h8 x,⟨n1,n2,n3,n4⟩,h10⟩
def ge2 (T:TE)(t:Bool)(o2:Int):Prop:=t=true->T.f2<=o2
def ge1 (T:TE)(t:Bool)(o1 o2:Int):Prop:=t=true->T.f1<o1\/(T.f1=o1/\T.f2<=o2)
def ge0 (T:TE)(t:Bool)(o0 o1 o2:Int):Prop:=t=true->T.f0<o0\/(T.f0=o0/\(T.f1<o1\/(T.f1=o1/\T.f2<=o2)))
variable {E:Env}(hE:EnvT E){lim:Nat}{h:Hp}
include hE
theorem c177_3 {T:TE}{t:Bool}:evI E lim (.func 177) (.int .i64 3::.bool t::T.cap) h=some (.bool true,h):=by
 rw[hE.fn T177]; simp only[push_cast,ac177,TE.cap,simprocAttr]
theorem c177_2 {T:TE}{o0 o1 o2:Int}(H:T.In h o0 o1 o2)(t:Bool):PostV (evI E lim (.func 177) (.int .i64 2::.bool t::T.cap) h) fun v h'=>∃r q2,v=.bool r/\h'=h.set T.bo (oB o0 o1 q2)/\(r=true->ge2 T t q2/\0<=q2/\q2<=59999999):=by
 have hlt:=lt_of_get H.bo;obtain⟨z1,z2,z3,z4,z5,z6⟩:=H.fr
 have rounds:∀(F:Fr) (low:Int) (P:AX->Fr->Hp->Prop),F.rd 0=.int .i64 2->F.rd 1=.bool t->F.rd 2=.pointer (some ⟨T.bf,0,none⟩)->F.rd 3=.pointer (some ⟨T.br,0,none⟩)->F.rd 4=.pointer (some ⟨T.bm,0,none⟩)->F.rd 5=.pointer (some ⟨T.bo,0,none⟩)->F.rd 6=.pointer (some ⟨T.bg,0,none⟩)->F.rd 10=.int .i64 low ->
   0<=low->low<=100000000000->(t=true->T.f2<=low) ->
   (∀f' r q2,f'.rd 9=.bool r->(r=true->ge2 T t q2/\0<=q2/\q2<=59999999)->P .ret f' (h.set T.bo (oB o0 o1 q2)))->Post (evK E h.length (.loop lp177_0) F h) P:=by
  intro F low P g0 g1 g2 g3 g4 g5 g6 g10 l1 l2 hl hP
  refine loop_post hE.mono (fun k f X=>∃(low:Int) (q2:Int),f.rd 0=.int .i64 2/\f.rd 1=.bool t/\f.rd 2=.pointer (some ⟨T.bf,0,none⟩)/\f.rd 3=.pointer (some ⟨T.br,0,none⟩)/\f.rd 4=.pointer (some ⟨T.bm,0,none⟩)/\f.rd 5=.pointer (some ⟨T.bo,0,none⟩)/\f.rd 6=.pointer (some ⟨T.bg,0,none⟩)/\f.rd 10=.int .i64 low /\
   0<=low/\low<=100000000000/\(100000000001-low).toNat=k/\(t=true->T.f2<=low)/\X=h.set T.bo (oB o0 o1 q2)) ?_ _ _ _ ⟨low,o2,g0,g1,g2,g3,g4,g5,g6,g10,l1,l2,rfl,hl,(set_same H.bo).symm⟩
  clear g0 g1 g2 g3 g4 g5 g6 g10 l1 l2 hl low F;rintro k f X ⟨low,q2,g0,g1,g2,g3,g4,g5,g6,g10,l1,l2,hk,hl,rfl⟩;have HX:=H.put o0 o1 q2;obtain⟨b1,b2,b3,b4,b5,b6,b7,b8,⟨n1,n2,n3,n4⟩,-⟩:=HX;have hp:=(H.p2 (oB o0 o1 q2));simp only[push_cast,lp177_0,g0,g1,g2,g3,g4,g5,g6,g10,b1,b2,b3,Nat.mul_one,Nat.zero_mul,Nat.add_zero,simprocAttr];refine(c175 hE hp.1 hp.2 (by omega) (by omega)).mono ?_;rintro v h' ⟨rfl,n,ok,rfl,hn⟩;cases ok with
  | false =>
   simp only[push_cast,simprocAttr];refine hP _ false q2 ?_ (fun hf=>by cases hf);simp only[push_cast,simprocAttr]
  | true =>
   obtain⟨m1,m2⟩:=hn rfl;have w3:IntKind.i64.wrap 3=3:=wrap64 (by omega) (by omega);have w4:=w64 (x:=n+1);cases t with
   | false =>
    simp only[push_cast,g0,g1,g2,g3,g4,g5,g6,H.bf,H.bg,oB,set_get hlt,set_ne n1,set_ne n4,Nat.mul_one,Nat.zero_mul,w3,c177_3 hE,simprocAttr];refine hP _ true n ?_ (fun _=>⟨fun ht=>(by cases ht),by omega⟩);simp only[push_cast,simprocAttr]
   | true =>
    have hl':=hl rfl;cases hq:(n==T.f2) with
    | false =>
     simp only[push_cast,g0,g1,g2,g3,g4,g5,g6,H.bf,H.bg,oB,set_get hlt,set_ne n1,set_ne n4,Nat.mul_one,Nat.zero_mul,w3,hq,c177_3 hE,simprocAttr];refine hP _ true n ?_ (fun _=>⟨fun ht=>(by omega),by omega⟩);simp only[push_cast,simprocAttr]
    | true =>
     have heq:n=T.f2:=by simpa using hq
     simp only[push_cast,g0,g1,g2,g3,g4,g5,g6,H.bf,H.bg,oB,set_get hlt,set_ne n1,set_ne n4,Nat.mul_one,Nat.zero_mul,w3,hq,c177_3 hE,simprocAttr];refine hP _ true n ?_ (fun _=>⟨fun ht=>(by omega),by omega⟩);simp only[push_cast,simprocAttr]
 cases t with
 | false =>
  rw[hE.fn T177]; simp only[push_cast,ac177,TE.cap,simprocAttr];refine rounds _ 0 _ rfl rfl rfl rfl rfl rfl rfl rfl (by omega) (by omega) (fun ht=>by cases ht) ?_;intro f' r q2 h9 hr;simp only[push_cast,h9,take_set,simprocAttr];exact⟨r,q2,rfl,rfl,hr⟩
 | true =>
  rw[hE.fn T177]; simp only[push_cast,ac177,TE.cap,H.bf,Nat.mul_one,Nat.zero_mul,Nat.add_zero,simprocAttr];refine rounds _ T.f2 _ rfl rfl rfl rfl rfl rfl rfl rfl (by omega) (by omega) (fun ht=>Int.le_refl _) ?_;intro f' r q2 h9 hr;simp only[push_cast,h9,take_set,simprocAttr];exact⟨r,q2,rfl,rfl,hr⟩
theorem c177_1 {T:TE}{o0 o1 o2:Int}(H:T.In h o0 o1 o2)(t:Bool):PostV (evI E lim (.func 177) (.int .i64 1::.bool t::T.cap) h) fun v h'=>∃r q1 q2,v=.bool r/\h'=h.set T.bo (oB o0 q1 q2)/\(r=true->ge1 T t q1 q2/\0<=q1/\q1<=59/\0<=q2/\q2<=59999999):=by
 have hlt:=lt_of_get H.bo;obtain⟨z1,z2,z3,z4,z5,z6⟩:=H.fr
 have rounds:∀(F:Fr) (low:Int) (P:AX->Fr->Hp->Prop),F.rd 0=.int .i64 1->F.rd 1=.bool t->F.rd 2=.pointer (some ⟨T.bf,0,none⟩)->F.rd 3=.pointer (some ⟨T.br,0,none⟩)->F.rd 4=.pointer (some ⟨T.bm,0,none⟩)->F.rd 5=.pointer (some ⟨T.bo,0,none⟩)->F.rd 6=.pointer (some ⟨T.bg,0,none⟩)->F.rd 10=.int .i64 low ->
   0<=low->low<=100000000000->(t=true->T.f1<=low) ->
   (∀f' r q1 q2,f'.rd 9=.bool r->(r=true->ge1 T t q1 q2/\0<=q1/\q1<=59/\0<=q2/\q2<=59999999)->P .ret f' (h.set T.bo (oB o0 q1 q2)))->Post (evK E h.length (.loop lp177_0) F h) P:=by
  intro F low P g0 g1 g2 g3 g4 g5 g6 g10 l1 l2 hl hP
  refine loop_post hE.mono (fun k f X=>∃(low:Int) (q1 q2:Int),f.rd 0=.int .i64 1/\f.rd 1=.bool t/\f.rd 2=.pointer (some ⟨T.bf,0,none⟩)/\f.rd 3=.pointer (some ⟨T.br,0,none⟩)/\f.rd 4=.pointer (some ⟨T.bm,0,none⟩)/\f.rd 5=.pointer (some ⟨T.bo,0,none⟩)/\f.rd 6=.pointer (some ⟨T.bg,0,none⟩)/\f.rd 10=.int .i64 low /\
   0<=low/\low<=100000000000/\(100000000001-low).toNat=k/\(t=true->T.f1<=low)/\X=h.set T.bo (oB o0 q1 q2)) ?_ _ _ _ ⟨low,o1,o2,g0,g1,g2,g3,g4,g5,g6,g10,l1,l2,rfl,hl,(set_same H.bo).symm⟩
  clear g0 g1 g2 g3 g4 g5 g6 g10 l1 l2 hl low F;rintro k f X ⟨low,q1,q2,g0,g1,g2,g3,g4,g5,g6,g10,l1,l2,hk,hl,rfl⟩;have HX:=H.put o0 q1 q2;obtain⟨b1,b2,b3,b4,b5,b6,b7,b8,⟨n1,n2,n3,n4⟩,-⟩:=HX;have hp:=(H.p1 (oB o0 q1 q2));simp only[push_cast,lp177_0,g0,g1,g2,g3,g4,g5,g6,g10,b1,b2,b3,Nat.mul_one,Nat.zero_mul,Nat.add_zero,simprocAttr];refine(c175 hE hp.1 hp.2 (by omega) (by omega)).mono ?_;rintro v h' ⟨rfl,n,ok,rfl,hn⟩;cases ok with
  | false =>
   simp only[push_cast,simprocAttr];refine hP _ false q1 q2 ?_ (fun hf=>by cases hf);simp only[push_cast,simprocAttr]
  | true =>
   obtain⟨m1,m2⟩:=hn rfl;have w3:IntKind.i64.wrap 2=2:=wrap64 (by omega) (by omega);have w4:=w64 (x:=n+1);cases t with
   | false =>
    simp only[push_cast,g0,g1,g2,g3,g4,g5,g6,H.bf,H.bg,oB,set_get hlt,set_ne n1,set_ne n4,Nat.mul_one,Nat.zero_mul,w3,simprocAttr];refine(c177_2 hE (H.put o0 n q2) _).mono ?_;rintro v h' ⟨r,q2',rfl,rfl,hr⟩;cases r with
    | true =>
     obtain⟨hr1,hr2⟩:=hr rfl;simp only[push_cast,simprocAttr];refine hP _ true n q2' ?_ (fun _=>⟨fun ht=>(by cases ht),by omega⟩);simp only[push_cast,simprocAttr]
    | false =>
     simp only[push_cast,g0,g1,g2,g3,g4,g5,g6,w4,simprocAttr];exact⟨(100000000001-(n+1)).toNat,by omega,n+1,n,q2',rfl,by omega,by omega,rfl,rfl⟩
   | true =>
    have hl':=hl rfl;cases hq:(n==T.f1) with
    | false =>
     simp only[push_cast,g0,g1,g2,g3,g4,g5,g6,H.bf,H.bg,oB,set_get hlt,set_ne n1,set_ne n4,Nat.mul_one,Nat.zero_mul,w3,hq,simprocAttr];refine(c177_2 hE (H.put o0 n q2) _).mono ?_;rintro v h' ⟨r,q2',rfl,rfl,hr⟩;cases r with
     | true =>
      obtain⟨hr1,hr2⟩:=hr rfl;simp only[push_cast,simprocAttr];refine hP _ true n q2' ?_ (fun _=>⟨fun ht=>(by(have hne:n≠T.f1:=by simpa using hq); omega),by omega⟩);simp only[push_cast,simprocAttr]
     | false =>
      simp only[push_cast,g0,g1,g2,g3,g4,g5,g6,w4,simprocAttr];exact⟨(100000000001-(n+1)).toNat,by omega,n+1,n,q2',rfl,by omega,by omega,rfl,by omega,rfl⟩
    | true =>
     have heq:n=T.f1:=by simpa using hq
     simp only[push_cast,g0,g1,g2,g3,g4,g5,g6,H.bf,H.bg,oB,set_get hlt,set_ne n1,set_ne n4,Nat.mul_one,Nat.zero_mul,w3,hq,simprocAttr];refine(c177_2 hE (H.put o0 n q2) _).mono ?_;rintro v h' ⟨r,q2',rfl,rfl,hr⟩;cases r with
     | true =>
      obtain⟨hr1,hr2⟩:=hr rfl;simp only[push_cast,simprocAttr];refine hP _ true n q2' ?_ (fun _=>⟨fun ht=>(by(have h3:=hr1 rfl); omega),by omega⟩);simp only[push_cast,simprocAttr]
     | false =>
      simp only[push_cast,g0,g1,g2,g3,g4,g5,g6,w4,simprocAttr];exact⟨(100000000001-(n+1)).toNat,by omega,n+1,n,q2',rfl,by omega,by omega,rfl,by omega,rfl⟩
 cases t with
 | false =>
  rw[hE.fn T177]; simp only[push_cast,ac177,TE.cap,simprocAttr];refine rounds _ 0 _ rfl rfl rfl rfl rfl rfl rfl rfl (by omega) (by omega) (fun ht=>by cases ht) ?_;intro f' r q1 q2 h9 hr;simp only[push_cast,h9,take_set,simprocAttr];exact⟨r,q1,q2,rfl,rfl,hr⟩
 | true =>
  rw[hE.fn T177]; simp only[push_cast,ac177,TE.cap,H.bf,Nat.mul_one,Nat.zero_mul,Nat.add_zero,simprocAttr];refine rounds _ T.f1 _ rfl rfl rfl rfl rfl rfl rfl rfl (by omega) (by omega) (fun ht=>Int.le_refl _) ?_;intro f' r q1 q2 h9 hr;simp only[push_cast,h9,take_set,simprocAttr];exact⟨r,q1,q2,rfl,rfl,hr⟩
theorem c177_0 {T:TE}{o0 o1 o2:Int}(H:T.In h o0 o1 o2)(t:Bool):PostV (evI E lim (.func 177) (.int .i64 0::.bool t::T.cap) h) fun v h'=>∃r q0 q1 q2,v=.bool r/\h'=h.set T.bo (oB q0 q1 q2)/\(r=true->ge0 T t q0 q1 q2/\0<=q0/\q0<=23/\0<=q1/\q1<=59/\0<=q2/\q2<=59999999):=by
 have hlt:=lt_of_get H.bo;obtain⟨z1,z2,z3,z4,z5,z6⟩:=H.fr
 have rounds:∀(F:Fr) (low:Int) (P:AX->Fr->Hp->Prop),F.rd 0=.int .i64 0->F.rd 1=.bool t->F.rd 2=.pointer (some ⟨T.bf,0,none⟩)->F.rd 3=.pointer (some ⟨T.br,0,none⟩)->F.rd 4=.pointer (some ⟨T.bm,0,none⟩)->F.rd 5=.pointer (some ⟨T.bo,0,none⟩)->F.rd 6=.pointer (some ⟨T.bg,0,none⟩)->F.rd 10=.int .i64 low ->
   0<=low->low<=100000000000->(t=true->T.f0<=low) ->
   (∀f' r q0 q1 q2,f'.rd 9=.bool r->(r=true->ge0 T t q0 q1 q2/\0<=q0/\q0<=23/\0<=q1/\q1<=59/\0<=q2/\q2<=59999999)->P .ret f' (h.set T.bo (oB q0 q1 q2)))->Post (evK E h.length (.loop lp177_0) F h) P:=by
  intro F low P g0 g1 g2 g3 g4 g5 g6 g10 l1 l2 hl hP
  refine loop_post hE.mono (fun k f X=>∃(low:Int) (q0 q1 q2:Int),f.rd 0=.int .i64 0/\f.rd 1=.bool t/\f.rd 2=.pointer (some ⟨T.bf,0,none⟩)/\f.rd 3=.pointer (some ⟨T.br,0,none⟩)/\f.rd 4=.pointer (some ⟨T.bm,0,none⟩)/\f.rd 5=.pointer (some ⟨T.bo,0,none⟩)/\f.rd 6=.pointer (some ⟨T.bg,0,none⟩)/\f.rd 10=.int .i64 low /\
   0<=low/\low<=100000000000/\(100000000001-low).toNat=k/\(t=true->T.f0<=low)/\X=h.set T.bo (oB q0 q1 q2)) ?_ _ _ _ ⟨low,o0,o1,o2,g0,g1,g2,g3,g4,g5,g6,g10,l1,l2,rfl,hl,(set_same H.bo).symm⟩
  clear g0 g1 g2 g3 g4 g5 g6 g10 l1 l2 hl low F;rintro k f X ⟨low,q0,q1,q2,g0,g1,g2,g3,g4,g5,g6,g10,l1,l2,hk,hl,rfl⟩;have HX:=H.put q0 q1 q2;obtain⟨b1,b2,b3,b4,b5,b6,b7,b8,⟨n1,n2,n3,n4⟩,-⟩:=HX;have hp:=(H.p0 (oB q0 q1 q2));simp only[push_cast,lp177_0,g0,g1,g2,g3,g4,g5,g6,g10,b1,b2,b3,Nat.mul_one,Nat.zero_mul,Nat.add_zero,simprocAttr];refine(c175 hE hp.1 hp.2 (by omega) (by omega)).mono ?_;rintro v h' ⟨rfl,n,ok,rfl,hn⟩;cases ok with
  | false =>
   simp only[push_cast,simprocAttr];refine hP _ false q0 q1 q2 ?_ (fun hf=>by cases hf);simp only[push_cast,simprocAttr]
  | true =>
   obtain⟨m1,m2⟩:=hn rfl;have w3:IntKind.i64.wrap 1=1:=wrap64 (by omega) (by omega);have w4:=w64 (x:=n+1);cases t with
   | false =>
    simp only[push_cast,g0,g1,g2,g3,g4,g5,g6,H.bf,H.bg,oB,set_get hlt,set_ne n1,set_ne n4,Nat.mul_one,Nat.zero_mul,w3,simprocAttr];refine(c177_1 hE (H.put n q1 q2) _).mono ?_;rintro v h' ⟨r,q1',q2',rfl,rfl,hr⟩;cases r with
    | true =>
     obtain⟨hr1,hr2⟩:=hr rfl;simp only[push_cast,simprocAttr];refine hP _ true n q1' q2' ?_ (fun _=>⟨fun ht=>(by cases ht),by omega⟩);simp only[push_cast,simprocAttr]
    | false =>
     simp only[push_cast,g0,g1,g2,g3,g4,g5,g6,w4,simprocAttr];exact⟨(100000000001-(n+1)).toNat,by omega,n+1,n,q1',q2',rfl,by omega,by omega,rfl,rfl⟩
   | true =>
    have hl':=hl rfl;cases hq:(n==T.f0) with
    | false =>
     simp only[push_cast,g0,g1,g2,g3,g4,g5,g6,H.bf,H.bg,oB,set_get hlt,set_ne n1,set_ne n4,Nat.mul_one,Nat.zero_mul,w3,hq,simprocAttr];refine(c177_1 hE (H.put n q1 q2) _).mono ?_;rintro v h' ⟨r,q1',q2',rfl,rfl,hr⟩;cases r with
     | true =>
      obtain⟨hr1,hr2⟩:=hr rfl;simp only[push_cast,simprocAttr];refine hP _ true n q1' q2' ?_ (fun _=>⟨fun ht=>(by(have hne:n≠T.f0:=by simpa using hq); omega),by omega⟩);simp only[push_cast,simprocAttr]
     | false =>
      simp only[push_cast,g0,g1,g2,g3,g4,g5,g6,w4,simprocAttr];exact⟨(100000000001-(n+1)).toNat,by omega,n+1,n,q1',q2',rfl,by omega,by omega,rfl,by omega,rfl⟩
    | true =>
     have heq:n=T.f0:=by simpa using hq
     simp only[push_cast,g0,g1,g2,g3,g4,g5,g6,H.bf,H.bg,oB,set_get hlt,set_ne n1,set_ne n4,Nat.mul_one,Nat.zero_mul,w3,hq,simprocAttr];refine(c177_1 hE (H.put n q1 q2) _).mono ?_;rintro v h' ⟨r,q1',q2',rfl,rfl,hr⟩;cases r with
     | true =>
      obtain⟨hr1,hr2⟩:=hr rfl;simp only[push_cast,simprocAttr];refine hP _ true n q1' q2' ?_ (fun _=>⟨fun ht=>(by(have h3:=hr1 rfl); omega),by omega⟩);simp only[push_cast,simprocAttr]
     | false =>
      simp only[push_cast,g0,g1,g2,g3,g4,g5,g6,w4,simprocAttr];exact⟨(100000000001-(n+1)).toNat,by omega,n+1,n,q1',q2',rfl,by omega,by omega,rfl,by omega,rfl⟩
 cases t with
 | false =>
  rw[hE.fn T177]; simp only[push_cast,ac177,TE.cap,simprocAttr];refine rounds _ 0 _ rfl rfl rfl rfl rfl rfl rfl rfl (by omega) (by omega) (fun ht=>by cases ht) ?_;intro f' r q0 q1 q2 h9 hr;simp only[push_cast,h9,take_set,simprocAttr];exact⟨r,q0,q1,q2,rfl,rfl,hr⟩
 | true =>
  rw[hE.fn T177]; simp only[push_cast,ac177,TE.cap,H.bf,Nat.mul_one,Nat.zero_mul,Nat.add_zero,simprocAttr];refine rounds _ T.f0 _ rfl rfl rfl rfl rfl rfl rfl rfl (by omega) (by omega) (fun ht=>Int.le_refl _) ?_;intro f' r q0 q1 q2 h9 hr;simp only[push_cast,h9,take_set,simprocAttr];exact⟨r,q0,q1,q2,rfl,rfl,hr⟩
structure SD where
 days:Int
 yr:PD
 mo:PD
 dy:PD
 en:Bool
 hr:PD
 mi:PD
 se:PD
 utc:Bool
def SD.cs (s:SD):List Value:=[.int .u8 s.days,s.yr.val,s.mo.val,s.dy.val,.bool s.en,s.hr.val,s.mi.val,s.se.val,.bool s.utc]
structure SD.In (s:SD)(h:Hp):Prop where
 yr:s.yr.In h
 mo:s.mo.In h
 dy:s.dy.In h
 hr:s.hr.In h
 mi:s.mi.In h
 se:s.se.In h
omit hE in
theorem SD.In.agr {s:SD} {h X:Hp} (H:s.In h) (A:Agr h X):s.In X:=⟨H.yr.agr A,H.mo.agr A,H.dy.agr A,H.hr.agr A,H.mi.agr A,H.se.agr A⟩
structure SD.Ok (s:SD):Prop where
 yr:s.yr.Ok 1970 2199
 mo:s.mo.Ok 1 12
 dy:s.dy.Ok 1 31
 hr:s.hr.Ok 0 23
 mi:s.mi.Ok 0 59
 se:s.se.Ok 0 59999999
omit hE in
theorem PD.Ok.wide {p:PD} {l m:Int} (H:p.Ok l m) (h1:0<=l) (h2:m<=100000000):p.Ok 0 100000000:=fun j hj=>by
 have:=H j hj;omega
theorem c116 {s:SD}(H:s.In h)(hok:s.Ok){f0 f1 f2:Int}(hf:0<=f0/\f0<=1000000000/\0<=f1/\f1<=1000000000/\0<=f2/\f2<=1000000000):PostV (evI E lim (.func 116) [.agg #[.int .u8 s.days,s.yr.val,s.mo.val,s.dy.val,.bool s.en,s.hr.val,s.mi.val,s.se.val,.bool s.utc],.agg #[.int .i64 f0,.int .i64 f1,.int .i64 f2]] h) fun v h'=>h'=h/\∃q0 q1 q2 r,v=.tuple #[.agg #[.int .i64 q0,.int .i64 q1,.int .i64 q2],.bool r] /\
  (r=true->(f0<q0\/(f0=q0/\(f1<q1\/(f1=q1/\f2<=q2))))/\0<=q0/\q0<=23/\0<=q1/\q1<=59/\0<=q2/\q2<=59999999):=by
 rw[hE.fn T116]; simp only[push_cast,ac116,PD.val,le_app,simprocAttr]
 have hT:∀B0 B2,(⟨h.length+1,h.length+3,h.length+4,h.length+5,h.length+6,f0,f1,f2,s.hr,s.mi,s.se⟩:TE).In (h++[B0,.cells true [.int .i64 f0,.int .i64 f1,.int .i64 f2],B2,.cells true [.slice s.hr.a s.hr.n s.hr.e,.slice s.mi.a s.mi.n s.mi.e,.slice s.se.a s.se.n s.se.e],.cells true [.int .i64 23,.int .i64 59,.int .i64 59999999],.cells true [.int .i64 0,.int .i64 0,.int .i64 0],
   .cells true [.func (.func 177) #[] #[.pointer (some ⟨h.length+1,0,none⟩),.pointer (some ⟨h.length+3,0,none⟩),.pointer (some ⟨h.length+4,0,none⟩),.pointer (some ⟨h.length+5,0,none⟩),.pointer (some ⟨h.length+6,0,none⟩)]]]) 0 0 0:=by
  intro B0 B2;have A:∀l x,Agr h ((h++l).set (h.length+5) x):=fun l x=>(Agr.app h l).set (by omega) x
  exact⟨by rw[get_app]; rfl,by rw[get_app]; rfl,by rw[get_app]; rfl,by rw[get_app]; rfl,by rw[get_app]; rfl,
   fun x=>⟨H.hr.agr (A _ x),hok.hr.wide (by omega) (by omega)⟩,fun x=>⟨H.mi.agr (A _ x),hok.mi.wide (by omega) (by omega)⟩,fun x=>⟨H.se.agr (A _ x),hok.se.wide (by omega) (by omega)⟩,
   ⟨by simp,by simp,by simp,by simp⟩,hf⟩
 refine(c177_0 hE (hT _ _) true).mono ?_;rintro v h' ⟨r,q0,q1,q2,rfl,rfl,hr⟩;simp only[push_cast,oB,simprocAttr];exact⟨q0,q1,q2,r,rfl,fun h=>⟨(hr h).1 rfl,(hr h).2⟩⟩
end
section
def PD.Bd (p:PD):Prop:=∀j,j<p.n->p.s j<=10000000000000
structure SD.Bd (s:SD):Prop where
 yr:s.yr.Bd
 mo:s.mo.Bd
 dy:s.dy.Bd
 hr:s.hr.Bd
 mi:s.mi.Bd
 se:s.se.Bd
variable {E:Env}(hE:EnvT E){lim:Nat}{h:Hp}
include hE
theorem c103 (a b c:Int)(p:Option Addr)(hlim:lim<=h.length):evI E lim (.func 103) [.int .i64 a,.int .i64 b,.int .i64 c,.pointer p] h=some (.agg #[.int .i64 a,.int .i64 b,.int .i64 c,.int .i64 2,.pointer p],h++[.cells true [.int .i64 a,.int .i64 b,.int .i64 c,.int .i64 2,.pointer p]]):=by
 rw[hE.fn T103]; simp only[push_cast,ac103,hlim,simprocAttr]
theorem c55 (b:Nat)(hlim:lim<=h.length):∃l,evI E lim (.func 55) [.pointer (some ⟨b,0,none⟩)] h=some (.agg #[.int .i64 1970,.int .i64 2199,.int .i64 1,.int .i64 4,.pointer (some ⟨b,1,none⟩),.int .i64 1,.int .i64 12,.int .i64 1,.int .i64 2,.pointer (some ⟨b,2,none⟩),.int .i64 1,.int .i64 31,.int .i64 1,.int .i64 2,.pointer (some ⟨b,3,none⟩),.int .i64 0,.int .i64 23,.int .i64 1,.int .i64 2,.pointer (some ⟨b,5,none⟩),.int .i64 0,.int .i64 59,.int .i64 1,.int .i64 2,.pointer (some ⟨b,6,none⟩),.int .i64 0,.int .i64 59999999,.int .i64 1000000,.int .i64 2,.pointer (some ⟨b,7,none⟩)],h++l):=by
 have hl:∀k,(lim<=h.length+k)=True:=fun k=>by simp; omega
 refine⟨_,by rw[hE.fn T55]; simp only[push_cast,ac55,c103 hE,hl,hlim,len_cons,simprocAttr]; rfl⟩
theorem c79 {l m u d:Int}{q:Option Addr}{c:Nat}{own:Bool}(hc:h[c]?=some (.cells own [.int .i64 l,.int .i64 m,.int .i64 u,.int .i64 d,.pointer q]))(f t s:Int):evI E lim (.func 79) [.agg #[.int .i64 f,.int .i64 t,.int .i64 s],.pointer (some ⟨c,0,none⟩)] h=some (.bool (!partOk l m f t s),h):=by
 rw[hE.fn T79]; simp only[push_cast,ac79,get_old hc,c80 hE _ _ _ _ _ _ _ _ (Or.inr trivial),simprocAttr]
theorem wrong {p:PD}(H:p.In h){l m u d:Int}{q:Option Addr}{c:Nat}{own:Bool}(hc:h[c]?=some (.cells own [.int .i64 l,.int .i64 m,.int .i64 u,.int .i64 d,.pointer q])) :
  ∃r,evI E lim (.func 78) [.slice p.a p.n p.e,.func (.func 79) #[] #[.pointer (some ⟨c,0,none⟩)]] h=some (.bool r,h)/\(r=false->p.Bd->p.Ok l m):=by
 have e:=c78 hE (lim:=lim) (h:=h) (p:=79) (fa:=#[]) (fb:=#[.pointer (some ⟨c,0,none⟩)]) (q:=fun j=>!partOk l m (p.f j) (p.t j) (p.s j)) H.1.K (by have:=H.2; omega) fun j hj=>c79 hE hc _ _ _;refine⟨_,e,fun hr hbd j hj=>?_⟩;have hn:=findI_none _ p.n 0 (by simpa using hr) j (by omega) (by omega);simp only[partOk,Bool.not_eq_false',Bool.and_eq_true,decide_eq_true_eq] at hn;have:=hbd j hj;omega
theorem wrongP {p:PD}(H:p.In h)(l m u d:Int)(q:Option Addr){c:Nat}(hc:h[c]?=some (.cells true [.int .i64 l,.int .i64 m,.int .i64 u,.int .i64 d,.pointer q])) :
  PostV (evI E lim (.func 78) [.slice p.a p.n p.e,.func (.func 79) #[] #[.pointer (some ⟨c,0,none⟩)]] h) fun v h'=>h'=h/\∃r,v=.bool r/\(r=false->p.Bd->p.Ok l m):=by
 obtain⟨r,e,hr⟩:=wrong hE H hc (lim:=lim);exact PostV.of e ⟨rfl,r,rfl,hr⟩
theorem c39 {s:SD}(H:s.In h):∃r,evI E lim (.func 39) [.agg #[.int .u8 s.days,s.yr.val,s.mo.val,s.dy.val,.bool s.en,s.hr.val,s.mi.val,s.se.val,.bool s.utc]] h=some (.bool r,h)/\(r=true->s.Bd->s.Ok):=by
 suffices hs:PostV (evI E lim (.func 39) [.agg #[.int .u8 s.days,s.yr.val,s.mo.val,s.dy.val,.bool s.en,s.hr.val,s.mi.val,s.se.val,.bool s.utc]] h) fun v h'=>h'=h/\∃r,v=.bool r/\(r=true->s.Bd->s.Ok) by
  obtain⟨v,h',e,rfl,r,rfl,hr⟩:=hs.out;exact⟨r,e,hr⟩
 unfold PD.val;obtain⟨l0,e0⟩:=c55 hE (lim:=h.length) h.length (h:=h++[.cells true [.int .u8 s.days,.slice s.yr.a s.yr.n s.yr.e,.slice s.mo.a s.mo.n s.mo.e,.slice s.dy.a s.dy.n s.dy.e,.bool s.en,.slice s.hr.a s.hr.n s.hr.e,.slice s.mi.a s.mi.n s.mi.e,.slice s.se.a s.se.n s.se.e,.bool s.utc]]) (by simp);rw[hE.fn T39]; simp only[push_cast,ac39,e0,len_cons,simprocAttr];rw[evK_loop' hE.mono]
 by_cases hn0:s.yr.n>20
 ·have g1:decide ((s.yr.n:Int)>20)=true:=by simp; omega
  simp only[push_cast,lp39_0,g1,get_cons,len_cons,List.extract_toArray,List.extract_eq_take_drop,le_app,Nat.add_assoc,simprocAttr];exact⟨false,rfl,fun h=>by cases h⟩
 have g1:decide ((s.yr.n:Int)>20)=false:=by simp; omega
 simp only[push_cast,lp39_0,g1,get_cons,len_cons,List.extract_toArray,List.extract_eq_take_drop,le_app,Nat.add_assoc,simprocAttr];refine(wrongP hE (H.yr.agr (Agr.app _ _)) 1970 2199 1 4 (some ⟨h.length,1,none⟩) (by rw[get_app]; simp only[get_cons,get_app,get_app0,List.getElem?_cons_zero,List.getElem?_cons_succ])).mono ?_;rintro v h' ⟨rfl,r0,rfl,hr0⟩;cases r0 with
 | true =>
  simp only[push_cast,simprocAttr];exact⟨false,rfl,fun h=>by cases h⟩
 | false =>
 have w1:IntKind.i64.wrap 1=1:=wrap64 (by omega) (by omega);simp only[push_cast,w1,simprocAttr];rw[evK_loop' hE.mono]
 by_cases hn1:s.mo.n>20
 ·have g1:decide ((s.mo.n:Int)>20)=true:=by simp; omega
  simp only[push_cast,lp39_0,g1,get_cons,len_cons,List.extract_toArray,List.extract_eq_take_drop,le_app,Nat.add_assoc,simprocAttr];exact⟨false,rfl,fun h=>by cases h⟩
 have g1:decide ((s.mo.n:Int)>20)=false:=by simp; omega
 simp only[push_cast,lp39_0,g1,get_cons,len_cons,List.extract_toArray,List.extract_eq_take_drop,le_app,Nat.add_assoc,simprocAttr];refine(wrongP hE (H.mo.agr (Agr.app _ _)) 1 12 1 2 (some ⟨h.length,2,none⟩) (by rw[get_app]; simp only[get_cons,get_app,get_app0,List.getElem?_cons_zero,List.getElem?_cons_succ])).mono ?_;rintro v h' ⟨rfl,r1,rfl,hr1⟩;cases r1 with
 | true =>
  simp only[push_cast,simprocAttr];exact⟨false,rfl,fun h=>by cases h⟩
 | false =>
 have w1:IntKind.i64.wrap 2=2:=wrap64 (by omega) (by omega);simp only[push_cast,w1,simprocAttr];rw[evK_loop' hE.mono]
 by_cases hn2:s.dy.n>20
 ·have g1:decide ((s.dy.n:Int)>20)=true:=by simp; omega
  simp only[push_cast,lp39_0,g1,get_cons,len_cons,List.extract_toArray,List.extract_eq_take_drop,le_app,Nat.add_assoc,simprocAttr];exact⟨false,rfl,fun h=>by cases h⟩
 have g1:decide ((s.dy.n:Int)>20)=false:=by simp; omega
 simp only[push_cast,lp39_0,g1,get_cons,len_cons,List.extract_toArray,List.extract_eq_take_drop,le_app,Nat.add_assoc,simprocAttr];refine(wrongP hE (H.dy.agr (Agr.app _ _)) 1 31 1 2 (some ⟨h.length,3,none⟩) (by rw[get_app]; simp only[get_cons,get_app,get_app0,List.getElem?_cons_zero,List.getElem?_cons_succ])).mono ?_;rintro v h' ⟨rfl,r2,rfl,hr2⟩;cases r2 with
 | true =>
  simp only[push_cast,simprocAttr];exact⟨false,rfl,fun h=>by cases h⟩
 | false =>
 have w1:IntKind.i64.wrap 3=3:=wrap64 (by omega) (by omega);simp only[push_cast,w1,simprocAttr];rw[evK_loop' hE.mono]
 by_cases hn3:s.hr.n>20
 ·have g1:decide ((s.hr.n:Int)>20)=true:=by simp; omega
  simp only[push_cast,lp39_0,g1,get_cons,len_cons,List.extract_toArray,List.extract_eq_take_drop,le_app,Nat.add_assoc,simprocAttr];exact⟨false,rfl,fun h=>by cases h⟩
 have g1:decide ((s.hr.n:Int)>20)=false:=by simp; omega
 simp only[push_cast,lp39_0,g1,get_cons,len_cons,List.extract_toArray,List.extract_eq_take_drop,le_app,Nat.add_assoc,simprocAttr];refine(wrongP hE (H.hr.agr (Agr.app _ _)) 0 23 1 2 (some ⟨h.length,5,none⟩) (by rw[get_app]; simp only[get_cons,get_app,get_app0,List.getElem?_cons_zero,List.getElem?_cons_succ])).mono ?_;rintro v h' ⟨rfl,r3,rfl,hr3⟩;cases r3 with
 | true =>
  simp only[push_cast,simprocAttr];exact⟨false,rfl,fun h=>by cases h⟩
 | false =>
 have w1:IntKind.i64.wrap 4=4:=wrap64 (by omega) (by omega);simp only[push_cast,w1,simprocAttr];rw[evK_loop' hE.mono]
 by_cases hn4:s.mi.n>20
 ·have g1:decide ((s.mi.n:Int)>20)=true:=by simp; omega
  simp only[push_cast,lp39_0,g1,get_cons,len_cons,List.extract_toArray,List.extract_eq_take_drop,le_app,Nat.add_assoc,simprocAttr];exact⟨false,rfl,fun h=>by cases h⟩
 have g1:decide ((s.mi.n:Int)>20)=false:=by simp; omega
 simp only[push_cast,lp39_0,g1,get_cons,len_cons,List.extract_toArray,List.extract_eq_take_drop,le_app,Nat.add_assoc,simprocAttr];refine(wrongP hE (H.mi.agr (Agr.app _ _)) 0 59 1 2 (some ⟨h.length,6,none⟩) (by rw[get_app]; simp only[get_cons,get_app,get_app0,List.getElem?_cons_zero,List.getElem?_cons_succ])).mono ?_;rintro v h' ⟨rfl,r4,rfl,hr4⟩;cases r4 with
 | true =>
  simp only[push_cast,simprocAttr];exact⟨false,rfl,fun h=>by cases h⟩
 | false =>
 have w1:IntKind.i64.wrap 5=5:=wrap64 (by omega) (by omega);simp only[push_cast,w1,simprocAttr];rw[evK_loop' hE.mono]
 by_cases hn5:s.se.n>20
 ·have g1:decide ((s.se.n:Int)>20)=true:=by simp; omega
  simp only[push_cast,lp39_0,g1,get_cons,len_cons,List.extract_toArray,List.extract_eq_take_drop,le_app,Nat.add_assoc,simprocAttr];exact⟨false,rfl,fun h=>by cases h⟩
 have g1:decide ((s.se.n:Int)>20)=false:=by simp; omega
 simp only[push_cast,lp39_0,g1,get_cons,len_cons,List.extract_toArray,List.extract_eq_take_drop,le_app,Nat.add_assoc,simprocAttr];refine(wrongP hE (H.se.agr (Agr.app _ _)) 0 59999999 1000000 2 (some ⟨h.length,7,none⟩) (by rw[get_app]; simp only[get_cons,get_app,get_app0,List.getElem?_cons_zero,List.getElem?_cons_succ])).mono ?_;rintro v h' ⟨rfl,r5,rfl,hr5⟩;cases r5 with
 | true =>
  simp only[push_cast,simprocAttr];exact⟨false,rfl,fun h=>by cases h⟩
 | false =>
 have w1:IntKind.i64.wrap 6=6:=wrap64 (by omega) (by omega);simp only[push_cast,w1,simprocAttr];rw[evK_loop' hE.mono];simp +contextual only[push_cast,lp39_0,get_cons,len_cons,Nat.add_assoc,simprocAttr];exact⟨_,rfl,fun _ B=>⟨hr0 rfl B.yr,hr1 rfl B.mo,hr2 rfl B.dy,hr3 rfl B.hr,hr4 rfl B.mi,hr5 rfl B.se⟩⟩
theorem c149 (f t s n:Int){b:Nat}{own:Bool}(hb:h[b]?=some (.cells own [.int .i64 n])):∃r,evI E lim (.func 149) [.agg #[.int .i64 f,.int .i64 t,.int .i64 s],.pointer (some ⟨b,0,none⟩)] h=some (.bool r,h):=by
 cases e1:(n==f) with
 | true=>exact⟨_,by rw[hE.fn T149]; simp only[push_cast,ac149,get_old hb,e1,simprocAttr]; rfl⟩
 | false =>
 cases e2:decide (s>0) with
 | false=>exact⟨_,by rw[hE.fn T149]; simp only[push_cast,ac149,get_old hb,e1,e2,simprocAttr]; rfl⟩
 | true =>
 have g2:(s=0)=False:=by simp at e2; simp; omega
 cases e3:decide (n>f) with
 | false=>exact⟨_,by rw[hE.fn T149]; simp only[push_cast,ac149,get_old hb,e1,e2,e3,simprocAttr]; rfl⟩
 | true =>
 cases e4:decide (n<=t) with
 | false=>exact⟨_,by rw[hE.fn T149]; simp only[push_cast,ac149,get_old hb,e1,e2,e3,e4,simprocAttr]; rfl⟩
 | true=>exact⟨_,by rw[hE.fn T149]; simp only[push_cast,ac149,get_old hb,e1,e2,e3,e4,g2,simprocAttr]; rfl⟩
theorem c87 {p:PD}(H:p.In h)(l m u d n:Int){b o:Nat}{own:Bool}{cs:List Value}(hb:h[b]?=some (.cells own cs))(ho:cs[o]?=some (.slice p.a p.n p.e)):PostV (evI E lim (.func 87) [.agg #[.int .i64 l,.int .i64 m,.int .i64 u,.int .i64 d,.pointer (some ⟨b,o,none⟩)],.int .i64 n] h) fun v h'=>h'=h/\∃r,v=.bool r:=by
 by_cases h0:p.n=0
 ·have g0:((p.n:Int)==0)=true:=by simp[h0]
  rw[hE.fn T87]; simp +contextual only[push_cast,ac87,get_old hb,ho,g0,simprocAttr];exact⟨_,rfl⟩
 ·have g0:((p.n:Int)==0)=false:=by simpa using h0
  have hx:∀j,∃r,evI E (h++([.cells true [.int .i64 l,.int .i64 m,.int .i64 u,.int .i64 d,.pointer (some ⟨b,o,none⟩)],.cells true [.int .i64 n]]:Hp)).length (.func 149) [.agg #[.int .i64 (p.f j),.int .i64 (p.t j),.int .i64 (p.s j)],.pointer (some ⟨h.length+1,0,none⟩)] (h++([.cells true [.int .i64 l,.int .i64 m,.int .i64 u,.int .i64 d,.pointer (some ⟨b,o,none⟩)],.cells true [.int .i64 n]]:Hp))=some (.bool r,h++([.cells true [.int .i64 l,.int .i64 m,.int .i64 u,.int .i64 d,.pointer (some ⟨b,o,none⟩)],.cells true [.int .i64 n]]:Hp)) :=
   fun j=>c149 hE _ _ _ n (by rw[get_app]; rfl)
  obtain⟨q,hq⟩:∃q:Nat->Bool,∀j,evI E (h++([.cells true [.int .i64 l,.int .i64 m,.int .i64 u,.int .i64 d,.pointer (some ⟨b,o,none⟩)],.cells true [.int .i64 n]]:Hp)).length (.func 149) [.agg #[.int .i64 (p.f j),.int .i64 (p.t j),.int .i64 (p.s j)],.pointer (some ⟨h.length+1,0,none⟩)] (h++([.cells true [.int .i64 l,.int .i64 m,.int .i64 u,.int .i64 d,.pointer (some ⟨b,o,none⟩)],.cells true [.int .i64 n]]:Hp))=some (.bool (q j),h++([.cells true [.int .i64 l,.int .i64 m,.int .i64 u,.int .i64 d,.pointer (some ⟨b,o,none⟩)],.cells true [.int .i64 n]]:Hp)) :=
   ⟨fun j=>Classical.choose (hx j),fun j=>Classical.choose_spec (hx j)⟩
  have e:=c78 hE (lim:=h.length) (p:=149) (fa:=#[]) (fb:=#[.pointer (some ⟨h.length+1,0,none⟩)]) (q:=q) (H.agr (Agr.app _ _)).1.K (by have:=H.2; omega) fun j hj=>hq j;rw[hE.fn T87]; simp +contextual only[push_cast,ac87,get_old hb,ho,g0,e,simprocAttr];exact⟨_,rfl⟩
theorem c42 {s:SD}(H:s.In h)(y m d hh mi se us:Int):PostV (evI E lim (.func 42) [.agg #[.int .u8 s.days,s.yr.val,s.mo.val,s.dy.val,.bool s.en,s.hr.val,s.mi.val,s.se.val,.bool s.utc],.agg #[.int .i64 y,.int .i64 m,.int .i64 d,.int .i64 hh,.int .i64 mi,.int .i64 se,.int .i64 us]] h) fun v h'=>h'=h/\∃r,v=.bool r:=by
 unfold PD.val;cases hm:microOk y m d hh mi se us with
 | false =>
  rw[hE.fn T42]; simp only[push_cast,ac42,c84 hE,hm,simprocAttr];exact⟨_,rfl⟩
 | true =>
 have hr:rightF y m d=true:=by simp only[microOk,Bool.and_eq_true] at hm; exact hm.1
 obtain⟨a1,a2,a3,a4,a5,a6⟩:=right_in hr;obtain⟨r39,e39,-⟩:=c39 hE (lim:=h.length) (s:=s) (h:=h++[.cells true [.int .u8 s.days,.slice s.yr.a s.yr.n s.yr.e,.slice s.mo.a s.mo.n s.mo.e,.slice s.dy.a s.dy.n s.dy.e,.bool s.en,.slice s.hr.a s.hr.n s.hr.e,.slice s.mi.a s.mi.n s.mi.e,.slice s.se.a s.se.n s.se.e,.bool s.utc],.cells true [.int .i64 y,.int .i64 m,.int .i64 d,.int .i64 hh,.int .i64 mi,.int .i64 se,.int .i64 us]]) (H.agr (Agr.app _ _));unfold PD.val at e39;cases r39 with
 | false =>
  rw[hE.fn T42]; simp only[push_cast,ac42,c84 hE,hm,e39,simprocAttr];exact⟨_,rfl⟩
 | true =>
 have wd:weekdayF y m d=(daysF y m d+3)%7+1:=by simp[weekdayF,hr]
 have wn:(IntKind.i64.wrap (weekdayF y m d-1)<0)=False:=by
  rw[wd,wrap64 (by omega) (by omega)];simp; omega
 cases hen:s.en with
 | false =>
  rw[hen] at e39;cases hd:(s.days.tmod 127==0) with
  | true =>
   rw[hE.fn T42]; simp only[push_cast,ac42,c84 hE,hm,e39,hd,hen,simprocAttr];obtain⟨l1,e55⟩:=c55 hE (lim:=h.length) h.length (h:=h++([.cells true [.int .u8 s.days,.slice s.yr.a s.yr.n s.yr.e,.slice s.mo.a s.mo.n s.mo.e,.slice s.dy.a s.dy.n s.dy.e,.bool s.en,.slice s.hr.a s.hr.n s.hr.e,.slice s.mi.a s.mi.n s.mi.e,.slice s.se.a s.se.n s.se.e,.bool s.utc],.cells true [.int .i64 y,.int .i64 m,.int .i64 d,.int .i64 hh,.int .i64 mi,.int .i64 se,.int .i64 us],.cells true [.int .i64 y,.int .i64 m,.int .i64 d,.int .i64 hh,.int .i64 mi,.int .i64 (IntKind.i64.wrap (IntKind.i64.wrap (se*1000000)+us))]]:Hp)) (by simp);rw[hen] at e55;simp only[push_cast,e55,len_cons,Nat.add_assoc,simprocAttr];rw[evK_loop' hE.mono];have w1:IntKind.i64.wrap 1=1:=wrap64 (by omega) (by omega);simp only[push_cast,lp42_0,get_cons,len_cons,List.extract_toArray,List.extract_eq_take_drop,le_app,Nat.add_assoc,Nat.mul_one,Nat.zero_mul,simprocAttr];refine(c87 hE (H.yr.agr (Agr.app _ _)) 1970 2199 1 4 _ (b:=h.length) (o:=1) (by rw[get_app0]; rfl) rfl).mono ?_;rintro v h' ⟨rfl,r,rfl⟩;cases r with
   | false =>
    simp only[push_cast,simprocAttr];exact⟨_,rfl⟩
   | true =>
   simp only[push_cast,w1,simprocAttr];rw[evK_loop' hE.mono];have w1:IntKind.i64.wrap 2=2:=wrap64 (by omega) (by omega);simp only[push_cast,lp42_0,get_cons,len_cons,List.extract_toArray,List.extract_eq_take_drop,le_app,Nat.add_assoc,Nat.mul_one,Nat.zero_mul,simprocAttr];refine(c87 hE (H.mo.agr (Agr.app _ _)) 1 12 1 2 _ (b:=h.length) (o:=2) (by rw[get_app0]; rfl) rfl).mono ?_;rintro v h' ⟨rfl,r,rfl⟩;cases r with
   | false =>
    simp only[push_cast,simprocAttr];exact⟨_,rfl⟩
   | true =>
   simp only[push_cast,w1,simprocAttr];rw[evK_loop' hE.mono];have w1:IntKind.i64.wrap 3=3:=wrap64 (by omega) (by omega);simp only[push_cast,lp42_0,get_cons,len_cons,List.extract_toArray,List.extract_eq_take_drop,le_app,Nat.add_assoc,Nat.mul_one,Nat.zero_mul,simprocAttr];refine(c87 hE (H.dy.agr (Agr.app _ _)) 1 31 1 2 _ (b:=h.length) (o:=3) (by rw[get_app0]; rfl) rfl).mono ?_;rintro v h' ⟨rfl,r,rfl⟩;cases r with
   | false =>
    simp only[push_cast,simprocAttr];exact⟨_,rfl⟩
   | true =>
   simp only[push_cast,w1,simprocAttr];rw[evK_loop' hE.mono];have w1:IntKind.i64.wrap 4=4:=wrap64 (by omega) (by omega);simp only[push_cast,lp42_0,get_cons,len_cons,List.extract_toArray,List.extract_eq_take_drop,le_app,Nat.add_assoc,Nat.mul_one,Nat.zero_mul,simprocAttr];refine(c87 hE (H.hr.agr (Agr.app _ _)) 0 23 1 2 _ (b:=h.length) (o:=5) (by rw[get_app0]; rfl) rfl).mono ?_;rintro v h' ⟨rfl,r,rfl⟩;cases r with
   | false =>
    simp only[push_cast,simprocAttr];exact⟨_,rfl⟩
   | true =>
   simp only[push_cast,w1,simprocAttr];rw[evK_loop' hE.mono];have w1:IntKind.i64.wrap 5=5:=wrap64 (by omega) (by omega);simp only[push_cast,lp42_0,get_cons,len_cons,List.extract_toArray,List.extract_eq_take_drop,le_app,Nat.add_assoc,Nat.mul_one,Nat.zero_mul,simprocAttr];refine(c87 hE (H.mi.agr (Agr.app _ _)) 0 59 1 2 _ (b:=h.length) (o:=6) (by rw[get_app0]; rfl) rfl).mono ?_;rintro v h' ⟨rfl,r,rfl⟩;cases r with
   | false =>
    simp only[push_cast,simprocAttr];exact⟨_,rfl⟩
   | true =>
   simp only[push_cast,w1,simprocAttr];rw[evK_loop' hE.mono];have w1:IntKind.i64.wrap 6=6:=wrap64 (by omega) (by omega);simp only[push_cast,lp42_0,get_cons,len_cons,List.extract_toArray,List.extract_eq_take_drop,le_app,Nat.add_assoc,Nat.mul_one,Nat.zero_mul,simprocAttr];refine(c87 hE (H.se.agr (Agr.app _ _)) 0 59999999 1000000 2 _ (b:=h.length) (o:=7) (by rw[get_app0]; rfl) rfl).mono ?_;rintro v h' ⟨rfl,r,rfl⟩;cases r with
   | false =>
    simp only[push_cast,simprocAttr];exact⟨_,rfl⟩
   | true =>
   simp only[push_cast,w1,simprocAttr];rw[evK_loop' hE.mono];simp only[push_cast,lp42_0,simprocAttr];exact⟨_,rfl⟩
  | false =>
   rw[hE.fn T42]; simp only[push_cast,ac42,c84 hE,hm,e39,hd,hen,c85 hE,wn,simprocAttr];rw[post_if];split
   ·simp only[push_cast,simprocAttr];exact⟨_,rfl⟩
   ·simp only[push_cast,simprocAttr];obtain⟨l1,e55⟩:=c55 hE (lim:=h.length) h.length (h:=h++([.cells true [.int .u8 s.days,.slice s.yr.a s.yr.n s.yr.e,.slice s.mo.a s.mo.n s.mo.e,.slice s.dy.a s.dy.n s.dy.e,.bool s.en,.slice s.hr.a s.hr.n s.hr.e,.slice s.mi.a s.mi.n s.mi.e,.slice s.se.a s.se.n s.se.e,.bool s.utc],.cells true [.int .i64 y,.int .i64 m,.int .i64 d,.int .i64 hh,.int .i64 mi,.int .i64 se,.int .i64 us],.cells true [.int .i64 y,.int .i64 m,.int .i64 d,.int .i64 hh,.int .i64 mi,.int .i64 (IntKind.i64.wrap (IntKind.i64.wrap (se*1000000)+us))]]:Hp)) (by simp);rw[hen] at e55;simp only[push_cast,e55,len_cons,Nat.add_assoc,simprocAttr];rw[evK_loop' hE.mono];have w1:IntKind.i64.wrap 1=1:=wrap64 (by omega) (by omega);simp only[push_cast,lp42_0,get_cons,len_cons,List.extract_toArray,List.extract_eq_take_drop,le_app,Nat.add_assoc,Nat.mul_one,Nat.zero_mul,simprocAttr];refine(c87 hE (H.yr.agr (Agr.app _ _)) 1970 2199 1 4 _ (b:=h.length) (o:=1) (by rw[get_app0]; rfl) rfl).mono ?_;rintro v h' ⟨rfl,r,rfl⟩;cases r with
    | false =>
     simp only[push_cast,simprocAttr];exact⟨_,rfl⟩
    | true =>
    simp only[push_cast,w1,simprocAttr];rw[evK_loop' hE.mono];have w1:IntKind.i64.wrap 2=2:=wrap64 (by omega) (by omega);simp only[push_cast,lp42_0,get_cons,len_cons,List.extract_toArray,List.extract_eq_take_drop,le_app,Nat.add_assoc,Nat.mul_one,Nat.zero_mul,simprocAttr];refine(c87 hE (H.mo.agr (Agr.app _ _)) 1 12 1 2 _ (b:=h.length) (o:=2) (by rw[get_app0]; rfl) rfl).mono ?_;rintro v h' ⟨rfl,r,rfl⟩;cases r with
    | false =>
     simp only[push_cast,simprocAttr];exact⟨_,rfl⟩
    | true =>
    simp only[push_cast,w1,simprocAttr];rw[evK_loop' hE.mono];have w1:IntKind.i64.wrap 3=3:=wrap64 (by omega) (by omega);simp only[push_cast,lp42_0,get_cons,len_cons,List.extract_toArray,List.extract_eq_take_drop,le_app,Nat.add_assoc,Nat.mul_one,Nat.zero_mul,simprocAttr];refine(c87 hE (H.dy.agr (Agr.app _ _)) 1 31 1 2 _ (b:=h.length) (o:=3) (by rw[get_app0]; rfl) rfl).mono ?_;rintro v h' ⟨rfl,r,rfl⟩;cases r with
    | false =>
     simp only[push_cast,simprocAttr];exact⟨_,rfl⟩
    | true =>
    simp only[push_cast,w1,simprocAttr];rw[evK_loop' hE.mono];have w1:IntKind.i64.wrap 4=4:=wrap64 (by omega) (by omega);simp only[push_cast,lp42_0,get_cons,len_cons,List.extract_toArray,List.extract_eq_take_drop,le_app,Nat.add_assoc,Nat.mul_one,Nat.zero_mul,simprocAttr];refine(c87 hE (H.hr.agr (Agr.app _ _)) 0 23 1 2 _ (b:=h.length) (o:=5) (by rw[get_app0]; rfl) rfl).mono ?_;rintro v h' ⟨rfl,r,rfl⟩;cases r with
    | false =>
     simp only[push_cast,simprocAttr];exact⟨_,rfl⟩
    | true =>
    simp only[push_cast,w1,simprocAttr];rw[evK_loop' hE.mono];have w1:IntKind.i64.wrap 5=5:=wrap64 (by omega) (by omega);simp only[push_cast,lp42_0,get_cons,len_cons,List.extract_toArray,List.extract_eq_take_drop,le_app,Nat.add_assoc,Nat.mul_one,Nat.zero_mul,simprocAttr];refine(c87 hE (H.mi.agr (Agr.app _ _)) 0 59 1 2 _ (b:=h.length) (o:=6) (by rw[get_app0]; rfl) rfl).mono ?_;rintro v h' ⟨rfl,r,rfl⟩;cases r with
    | false =>
     simp only[push_cast,simprocAttr];exact⟨_,rfl⟩
    | true =>
    simp only[push_cast,w1,simprocAttr];rw[evK_loop' hE.mono];have w1:IntKind.i64.wrap 6=6:=wrap64 (by omega) (by omega);simp only[push_cast,lp42_0,get_cons,len_cons,List.extract_toArray,List.extract_eq_take_drop,le_app,Nat.add_assoc,Nat.mul_one,Nat.zero_mul,simprocAttr];refine(c87 hE (H.se.agr (Agr.app _ _)) 0 59999999 1000000 2 _ (b:=h.length) (o:=7) (by rw[get_app0]; rfl) rfl).mono ?_;rintro v h' ⟨rfl,r,rfl⟩;cases r with
    | false =>
     simp only[push_cast,simprocAttr];exact⟨_,rfl⟩
    | true =>
    simp only[push_cast,w1,simprocAttr];rw[evK_loop' hE.mono];simp only[push_cast,lp42_0,simprocAttr];exact⟨_,rfl⟩
 | true =>
  rw[hen] at e39;have wl:=long_in a1 a2 a3 a4;cases hd:(s.days.tmod 127==0) with
  | true =>
   rw[hE.fn T42]; simp only[push_cast,ac42,c84 hE,hm,e39,hd,hen,c86 hE,simprocAttr];obtain⟨l1,e55⟩:=c55 hE (lim:=h.length) h.length (h:=h++([.cells true [.int .u8 s.days,.slice s.yr.a s.yr.n s.yr.e,.slice s.mo.a s.mo.n s.mo.e,.slice s.dy.a s.dy.n s.dy.e,.bool s.en,.slice s.hr.a s.hr.n s.hr.e,.slice s.mi.a s.mi.n s.mi.e,.slice s.se.a s.se.n s.se.e,.bool s.utc],.cells true [.int .i64 y,.int .i64 m,.int .i64 d,.int .i64 hh,.int .i64 mi,.int .i64 se,.int .i64 us],.cells true [.int .i64 y,.int .i64 m,.int .i64 (IntKind.i64.wrap (IntKind.i64.wrap (longF y m-d)+1)),.int .i64 hh,.int .i64 mi,.int .i64 (IntKind.i64.wrap (IntKind.i64.wrap (se*1000000)+us))]]:Hp)) (by simp);rw[hen] at e55;simp only[push_cast,e55,len_cons,Nat.add_assoc,simprocAttr];rw[evK_loop' hE.mono];have w1:IntKind.i64.wrap 1=1:=wrap64 (by omega) (by omega);simp only[push_cast,lp42_0,get_cons,len_cons,List.extract_toArray,List.extract_eq_take_drop,le_app,Nat.add_assoc,Nat.mul_one,Nat.zero_mul,simprocAttr];refine(c87 hE (H.yr.agr (Agr.app _ _)) 1970 2199 1 4 _ (b:=h.length) (o:=1) (by rw[get_app0]; rfl) rfl).mono ?_;rintro v h' ⟨rfl,r,rfl⟩;cases r with
   | false =>
    simp only[push_cast,simprocAttr];exact⟨_,rfl⟩
   | true =>
   simp only[push_cast,w1,simprocAttr];rw[evK_loop' hE.mono];have w1:IntKind.i64.wrap 2=2:=wrap64 (by omega) (by omega);simp only[push_cast,lp42_0,get_cons,len_cons,List.extract_toArray,List.extract_eq_take_drop,le_app,Nat.add_assoc,Nat.mul_one,Nat.zero_mul,simprocAttr];refine(c87 hE (H.mo.agr (Agr.app _ _)) 1 12 1 2 _ (b:=h.length) (o:=2) (by rw[get_app0]; rfl) rfl).mono ?_;rintro v h' ⟨rfl,r,rfl⟩;cases r with
   | false =>
    simp only[push_cast,simprocAttr];exact⟨_,rfl⟩
   | true =>
   simp only[push_cast,w1,simprocAttr];rw[evK_loop' hE.mono];have w1:IntKind.i64.wrap 3=3:=wrap64 (by omega) (by omega);simp only[push_cast,lp42_0,get_cons,len_cons,List.extract_toArray,List.extract_eq_take_drop,le_app,Nat.add_assoc,Nat.mul_one,Nat.zero_mul,simprocAttr];refine(c87 hE (H.dy.agr (Agr.app _ _)) 1 31 1 2 _ (b:=h.length) (o:=3) (by rw[get_app0]; rfl) rfl).mono ?_;rintro v h' ⟨rfl,r,rfl⟩;cases r with
   | false =>
    simp only[push_cast,simprocAttr];exact⟨_,rfl⟩
   | true =>
   simp only[push_cast,w1,simprocAttr];rw[evK_loop' hE.mono];have w1:IntKind.i64.wrap 4=4:=wrap64 (by omega) (by omega);simp only[push_cast,lp42_0,get_cons,len_cons,List.extract_toArray,List.extract_eq_take_drop,le_app,Nat.add_assoc,Nat.mul_one,Nat.zero_mul,simprocAttr];refine(c87 hE (H.hr.agr (Agr.app _ _)) 0 23 1 2 _ (b:=h.length) (o:=5) (by rw[get_app0]; rfl) rfl).mono ?_;rintro v h' ⟨rfl,r,rfl⟩;cases r with
   | false =>
    simp only[push_cast,simprocAttr];exact⟨_,rfl⟩
   | true =>
   simp only[push_cast,w1,simprocAttr];rw[evK_loop' hE.mono];have w1:IntKind.i64.wrap 5=5:=wrap64 (by omega) (by omega);simp only[push_cast,lp42_0,get_cons,len_cons,List.extract_toArray,List.extract_eq_take_drop,le_app,Nat.add_assoc,Nat.mul_one,Nat.zero_mul,simprocAttr];refine(c87 hE (H.mi.agr (Agr.app _ _)) 0 59 1 2 _ (b:=h.length) (o:=6) (by rw[get_app0]; rfl) rfl).mono ?_;rintro v h' ⟨rfl,r,rfl⟩;cases r with
   | false =>
    simp only[push_cast,simprocAttr];exact⟨_,rfl⟩
   | true =>
   simp only[push_cast,w1,simprocAttr];rw[evK_loop' hE.mono];have w1:IntKind.i64.wrap 6=6:=wrap64 (by omega) (by omega);simp only[push_cast,lp42_0,get_cons,len_cons,List.extract_toArray,List.extract_eq_take_drop,le_app,Nat.add_assoc,Nat.mul_one,Nat.zero_mul,simprocAttr];refine(c87 hE (H.se.agr (Agr.app _ _)) 0 59999999 1000000 2 _ (b:=h.length) (o:=7) (by rw[get_app0]; rfl) rfl).mono ?_;rintro v h' ⟨rfl,r,rfl⟩;cases r with
   | false =>
    simp only[push_cast,simprocAttr];exact⟨_,rfl⟩
   | true =>
   simp only[push_cast,w1,simprocAttr];rw[evK_loop' hE.mono];simp only[push_cast,lp42_0,simprocAttr];exact⟨_,rfl⟩
  | false =>
   rw[hE.fn T42]; simp only[push_cast,ac42,c84 hE,hm,e39,hd,hen,c85 hE,wn,simprocAttr];rw[post_if];split
   ·simp only[push_cast,simprocAttr];exact⟨_,rfl⟩
   ·simp only[push_cast,c86 hE,simprocAttr];obtain⟨l1,e55⟩:=c55 hE (lim:=h.length) h.length (h:=h++([.cells true [.int .u8 s.days,.slice s.yr.a s.yr.n s.yr.e,.slice s.mo.a s.mo.n s.mo.e,.slice s.dy.a s.dy.n s.dy.e,.bool s.en,.slice s.hr.a s.hr.n s.hr.e,.slice s.mi.a s.mi.n s.mi.e,.slice s.se.a s.se.n s.se.e,.bool s.utc],.cells true [.int .i64 y,.int .i64 m,.int .i64 d,.int .i64 hh,.int .i64 mi,.int .i64 se,.int .i64 us],.cells true [.int .i64 y,.int .i64 m,.int .i64 (IntKind.i64.wrap (IntKind.i64.wrap (longF y m-d)+1)),.int .i64 hh,.int .i64 mi,.int .i64 (IntKind.i64.wrap (IntKind.i64.wrap (se*1000000)+us))]]:Hp)) (by simp);rw[hen] at e55;simp only[push_cast,e55,len_cons,Nat.add_assoc,simprocAttr];rw[evK_loop' hE.mono];have w1:IntKind.i64.wrap 1=1:=wrap64 (by omega) (by omega);simp only[push_cast,lp42_0,get_cons,len_cons,List.extract_toArray,List.extract_eq_take_drop,le_app,Nat.add_assoc,Nat.mul_one,Nat.zero_mul,simprocAttr];refine(c87 hE (H.yr.agr (Agr.app _ _)) 1970 2199 1 4 _ (b:=h.length) (o:=1) (by rw[get_app0]; rfl) rfl).mono ?_;rintro v h' ⟨rfl,r,rfl⟩;cases r with
    | false =>
     simp only[push_cast,simprocAttr];exact⟨_,rfl⟩
    | true =>
    simp only[push_cast,w1,simprocAttr];rw[evK_loop' hE.mono];have w1:IntKind.i64.wrap 2=2:=wrap64 (by omega) (by omega);simp only[push_cast,lp42_0,get_cons,len_cons,List.extract_toArray,List.extract_eq_take_drop,le_app,Nat.add_assoc,Nat.mul_one,Nat.zero_mul,simprocAttr];refine(c87 hE (H.mo.agr (Agr.app _ _)) 1 12 1 2 _ (b:=h.length) (o:=2) (by rw[get_app0]; rfl) rfl).mono ?_;rintro v h' ⟨rfl,r,rfl⟩;cases r with
    | false =>
     simp only[push_cast,simprocAttr];exact⟨_,rfl⟩
    | true =>
    simp only[push_cast,w1,simprocAttr];rw[evK_loop' hE.mono];have w1:IntKind.i64.wrap 3=3:=wrap64 (by omega) (by omega);simp only[push_cast,lp42_0,get_cons,len_cons,List.extract_toArray,List.extract_eq_take_drop,le_app,Nat.add_assoc,Nat.mul_one,Nat.zero_mul,simprocAttr];refine(c87 hE (H.dy.agr (Agr.app _ _)) 1 31 1 2 _ (b:=h.length) (o:=3) (by rw[get_app0]; rfl) rfl).mono ?_;rintro v h' ⟨rfl,r,rfl⟩;cases r with
    | false =>
     simp only[push_cast,simprocAttr];exact⟨_,rfl⟩
    | true =>
    simp only[push_cast,w1,simprocAttr];rw[evK_loop' hE.mono];have w1:IntKind.i64.wrap 4=4:=wrap64 (by omega) (by omega);simp only[push_cast,lp42_0,get_cons,len_cons,List.extract_toArray,List.extract_eq_take_drop,le_app,Nat.add_assoc,Nat.mul_one,Nat.zero_mul,simprocAttr];refine(c87 hE (H.hr.agr (Agr.app _ _)) 0 23 1 2 _ (b:=h.length) (o:=5) (by rw[get_app0]; rfl) rfl).mono ?_;rintro v h' ⟨rfl,r,rfl⟩;cases r with
    | false =>
     simp only[push_cast,simprocAttr];exact⟨_,rfl⟩
    | true =>
    simp only[push_cast,w1,simprocAttr];rw[evK_loop' hE.mono];have w1:IntKind.i64.wrap 5=5:=wrap64 (by omega) (by omega);simp only[push_cast,lp42_0,get_cons,len_cons,List.extract_toArray,List.extract_eq_take_drop,le_app,Nat.add_assoc,Nat.mul_one,Nat.zero_mul,simprocAttr];refine(c87 hE (H.mi.agr (Agr.app _ _)) 0 59 1 2 _ (b:=h.length) (o:=6) (by rw[get_app0]; rfl) rfl).mono ?_;rintro v h' ⟨rfl,r,rfl⟩;cases r with
    | false =>
     simp only[push_cast,simprocAttr];exact⟨_,rfl⟩
    | true =>
    simp only[push_cast,w1,simprocAttr];rw[evK_loop' hE.mono];have w1:IntKind.i64.wrap 6=6:=wrap64 (by omega) (by omega);simp only[push_cast,lp42_0,get_cons,len_cons,List.extract_toArray,List.extract_eq_take_drop,le_app,Nat.add_assoc,Nat.mul_one,Nat.zero_mul,simprocAttr];refine(c87 hE (H.se.agr (Agr.app _ _)) 0 59999999 1000000 2 _ (b:=h.length) (o:=7) (by rw[get_app0]; rfl) rfl).mono ?_;rintro v h' ⟨rfl,r,rfl⟩;cases r with
    | false =>
     simp only[push_cast,simprocAttr];exact⟨_,rfl⟩
    | true =>
    simp only[push_cast,w1,simprocAttr];rw[evK_loop' hE.mono];simp only[push_cast,lp42_0,simprocAttr];exact⟨_,rfl⟩
theorem c176 {s:SD}(H:s.In h)(y m d:Int):PostV (evI E lim (.func 176) [.agg #[.int .u8 s.days,s.yr.val,s.mo.val,s.dy.val,.bool s.en,s.hr.val,s.mi.val,s.se.val,.bool s.utc],.agg #[.int .i64 y,.int .i64 m,.int .i64 d]] h) fun v h'=>h'=h/\∃r,v=.bool r:=by
 unfold PD.val;rw[hE.fn T176]; simp only[push_cast,ac176,le_app,simprocAttr]
 have hS:∀B0 B1,(⟨s.days,s.yr,s.mo,s.dy,s.en,⟨none,0,0,fun _=>0,fun _=>0,fun _=>0⟩,⟨none,0,0,fun _=>0,fun _=>0,fun _=>0⟩,⟨some ⟨h.length+2,0,none⟩,1,3,fun _=>0,fun _=>0,fun _=>0⟩,s.utc⟩:SD).In (h++[B0,B1,.cells true [.int .i64 0,.int .i64 0,.int .i64 0]]):=by
  intro B0 B1;have A:=Agr.app h [B0,B1,.cells true [.int .i64 0,.int .i64 0,.int .i64 0]];refine⟨H.yr.agr A,H.mo.agr A,H.dy.agr A,⟨Or.inl ⟨rfl,rfl,rfl⟩,by simp⟩,⟨Or.inl ⟨rfl,rfl,rfl⟩,by simp⟩,⟨Or.inr ⟨_,_,true,_,rfl,rfl,by rw[get_app]; rfl,by simp,fun j hj=>?_⟩,by simp⟩⟩;have hj':j<1:=hj;have:j=0:=by omega
  subst this;rfl
 refine(c42 hE (hS _ _) _ _ _ _ _ _ _).mono ?_;rintro v h' ⟨rfl,r,rfl⟩;simp only[push_cast,simprocAttr];exact⟨_,rfl⟩
end
section
def SD.cv (s:SD):List Value:=[.int .u8 s.days,.slice s.yr.a s.yr.n s.yr.e,.slice s.mo.a s.mo.n s.mo.e,.slice s.dy.a s.dy.n s.dy.e,.bool s.en,.slice s.hr.a s.hr.n s.hr.e,.slice s.mi.a s.mi.n s.mi.e,.slice s.se.a s.se.n s.se.e,.bool s.utc]
def dateGE (y m d fy fm fd:Int):Prop:=fy<y\/(fy=y/\(fm<m\/(fm=m/\fd<=d)))
structure DCtx (E:Env)(n0 l bs bf:Nat)(s:SD)(fy fm fd:Int)(J Q:Hp->Prop):Prop where
 ok:s.Ok
 at_:∀X,n0<=X.length->J (X.take n0)->X[bs]?=some (.cells true s.cv)/\X[bf]?=some (.cells true [.int .i64 fy,.int .i64 fm,.int .i64 fd])/\s.In X
 step:∀X y m d,n0<=X.length->J (X.take n0)->rightF y m d=true->1970<=y->y<=2199->dateGE y m d fy fm fd ->
   PostV (evI E n0 (.yield l) [.agg #[.int .i64 y,.int .i64 m,.int .i64 d]] X) fun v X'=>X.length<=X'.length/\(∀i,n0<=i->i<X.length->X'[i]?=X[i]?)/\((v=.bool true/\J (X'.take n0))\/(v=.bool false/\Q (X'.take n0)))
theorem take_take_app {X Y:Hp}{n:Nat}(h:n<=X.length):(X++Y).take n=X.take n:=List.take_append_of_le_length h
variable {E:Env}(hE:EnvT E){lim:Nat}{h:Hp}
include hE
theorem days_loop {n0 l bs bf:Nat}{s:SD}{fy fm fd:Int}{J Q:Hp->Prop}(D:DCtx E n0 l bs bf s fy fm fd J Q){y m:Int}(hy1:1970<=y)(hy2:y<=2199)(hm1:1<=m)(hm2:m<=12){f:Fr}{X:Hp}{d0:Int}{v5 v6 v8:Value}
  (f0:f.rd 0=.func (.yield l) #[] #[])(f1:f.rd 1=.pointer (some ⟨bs,0,none⟩))(f2:f.rd 2=.pointer (some ⟨bf,0,none⟩))(f4:f.rd 4=.int .i64 y)(f5:f.rd 5=v5)(f6:f.rd 6=v6)(f7:f.rd 7=.int .i64 m)(f8:f.rd 8=v8)(f10:f.rd 10=.int .i64 d0)
  (hd:1<=d0)(hd2:d0<=100)(hge:∀d,d0<=d->dateGE y m d fy fm fd)(hX:n0<=X.length)(hXJ:J (X.take n0)){P:AX->Fr->Hp->Prop}
  (hexit:∀f' X',f'.rd 0=.func (.yield l) #[] #[]->f'.rd 1=.pointer (some ⟨bs,0,none⟩)->f'.rd 2=.pointer (some ⟨bf,0,none⟩)->f'.rd 4=.int .i64 y->f'.rd 5=v5->f'.rd 6=v6->f'.rd 7=.int .i64 m->f'.rd 8=v8->X.length<=X'.length->(∀i,n0<=i->i<X.length->X'[i]?=X[i]?)->J (X'.take n0)->P (.exit 4) f' X')
  (hret:∀f' X',n0<=X'.length->Q (X'.take n0)->P .ret f' X'):Post (evK E n0 (.loop lp174_0) f X) P:=by
 obtain⟨lv,hlv⟩:∃lv,longF y m=lv:=⟨_,rfl⟩;have hl:=long_in (y:=y) (m:=m) (by omega) (by omega) hm1 hm2;rw[hlv] at hl
 refine loop_post hE.mono (fun k g W=>∃d:Int,g.rd 0=.func (.yield l) #[] #[]/\g.rd 1=.pointer (some ⟨bs,0,none⟩)/\g.rd 2=.pointer (some ⟨bf,0,none⟩)/\g.rd 4=.int .i64 y/\g.rd 5=v5/\g.rd 6=v6/\g.rd 7=.int .i64 m/\g.rd 8=v8/\g.rd 10=.int .i64 d /\
  d0<=d/\d<=101/\(102-d).toNat=k/\X.length<=W.length/\(∀i,n0<=i->i<X.length->W[i]?=X[i]?)/\J (W.take n0)) ?_ (102-d0).toNat _ _ ⟨d0,f0,f1,f2,f4,f5,f6,f7,f8,f10,Int.le_refl _,by omega,rfl,Nat.le_refl _,fun _ _ _=>rfl,hXJ⟩
 rintro k g W ⟨d,g0,g1,g2,g4,g5,g6,g7,g8,g10,e1,e2,hk,wl,wo,wJ⟩
 by_cases hdl:d<=lv
 ·obtain⟨p1,p2,p3⟩:=D.at_ W (by omega) wJ;have p1':=p1;simp only[SD.cv] at p1';have w1:=w64 (x:=d+1);have hn0:∀q:Prop,(n0<=W.length\/q)=True:=fun q=>by simp; omega
  simp only[push_cast,lp174_0,g0,g1,g2,g4,g7,g10,c86 hE,hlv,hdl,hn0,get_old p1',simprocAttr];have hr:rightF y m d=true:=by simp only[rightF,hlv,Bool.and_eq_true,decide_eq_true_eq]; omega
  have h176:=c176 hE (lim:=n0) (p3.agr (Agr.app W [.cells true [.int .i64 y,.int .i64 m,.int .i64 d]])) y m d;unfold PD.val at h176;refine h176.mono ?_;rintro v h' ⟨rfl,r,rfl⟩;cases r with
  | false =>
   simp only[push_cast,g0,g1,g2,g4,g5,g6,g7,g8,g10,w1,simprocAttr];refine⟨(102-(d+1)).toNat,by omega,d+1,rfl,by omega,by omega,rfl,by omega,fun i i1 i2=>by rw[get_lt (by omega)]; exact wo i i1 i2,by rw[take_take_app (by omega)]; exact wJ⟩
  | true =>
   simp only[push_cast,g0,g1,g2,g4,g5,g6,g7,g8,g10,simprocAttr];refine(D.step _ y m d (by simp; omega) (by rw[take_take_app (by omega)]; exact wJ) hr (by omega) (by omega) (hge d e1)).mono ?_;rintro v W' ⟨s1,s2,⟨rfl,sJ⟩ | ⟨rfl,sQ⟩⟩
   ·simp only[List.length_append,List.length_cons,List.length_nil] at s1 s2;simp only[push_cast,g0,g1,g2,g4,g5,g6,g7,g8,g10,w1,simprocAttr];refine⟨(102-(d+1)).toNat,by omega,d+1,rfl,by omega,by omega,rfl,by omega,fun i i1 i2=>?_,sJ⟩;rw[s2 i i1 (by omega),get_lt (by omega)];exact wo i i1 i2
   ·simp only[List.length_append,List.length_cons,List.length_nil] at s1;simp only[push_cast,simprocAttr];exact hret _ _ (by omega) sQ
 ·simp only[push_cast,lp174_0,g4,g7,g10,c86 hE,hlv,hdl,simprocAttr];refine hexit _ _ ?_ ?_ ?_ ?_ ?_ ?_ ?_ ?_ wl wo wJ
  all_goals first | assumption | (simp only[push_cast,g0,g1,g2,g4,g5,g6,g7,g8,simprocAttr])
end
section
variable {E:Env}(hE:EnvT E){lim:Nat}{h:Hp}
include hE
theorem months_loop {n0 l bs bf:Nat}{s:SD}{fy fm fd:Int}{J Q:Hp->Prop}(D:DCtx E n0 l bs bf s fy fm fd J Q){y m lm ld:Int}{b:Bool}{bl:Nat}(hy1:1970<=y)(hy2:y<=2199)(hyf:fy<=y)(hlm:1<=lm)(hld:1<=ld)(hld2:ld<=31)
  (hl1:y=fy->lm=fm/\ld=fd){f:Fr}{X:Hp}{v5:Value}
  (f0:f.rd 0=.func (.yield l) #[] #[])(f1:f.rd 1=.pointer (some ⟨bs,0,none⟩))(f2:f.rd 2=.pointer (some ⟨bf,0,none⟩))(f4:f.rd 4=.int .i64 y)(f5:f.rd 5=v5)(f6:f.rd 6=.pointer (some ⟨bl,0,none⟩))(f7:f.rd 7=.int .i64 m)(f8:f.rd 8=.bool b)
  (hb:b=true->lm<=m/\m<=12)(hbl:n0<=bl)(hX:n0<=X.length)(hXl:X[bl]?=some (.cells true [.int .i64 y,.int .i64 lm,.int .i64 ld]))(hXJ:J (X.take n0)){P:AX->Fr->Hp->Prop}
  (hexit:∀f' X',f'.rd 0=.func (.yield l) #[] #[]->f'.rd 1=.pointer (some ⟨bs,0,none⟩)->f'.rd 2=.pointer (some ⟨bf,0,none⟩)->f'.rd 4=.int .i64 y->f'.rd 5=v5->X.length<=X'.length->(∀i,n0<=i->i<X.length->X'[i]?=X[i]?)->J (X'.take n0)->P (.exit 2) f' X')
  (hret:∀f' X',n0<=X'.length->Q (X'.take n0)->P .ret f' X'):Post (evK E n0 (.loop lp174_1) f X) P:=by
 have hbX:=lt_of_get hXl
 refine loop_post hE.mono (fun k g W=>∃(m:Int) (b:Bool),g.rd 0=.func (.yield l) #[] #[]/\g.rd 1=.pointer (some ⟨bs,0,none⟩)/\g.rd 2=.pointer (some ⟨bf,0,none⟩)/\g.rd 4=.int .i64 y/\g.rd 5=v5/\g.rd 6=.pointer (some ⟨bl,0,none⟩)/\g.rd 7=.int .i64 m/\g.rd 8=.bool b /\
  (b=true->lm<=m/\m<=12)/\(if b then(14-m).toNat else 0)=k/\X.length<=W.length/\(∀i,n0<=i->i<X.length->W[i]?=X[i]?)/\J (W.take n0)) ?_ _ _ _ ⟨m,b,f0,f1,f2,f4,f5,f6,f7,f8,hb,rfl,Nat.le_refl _,fun _ _ _=>rfl,hXJ⟩
 rintro k g W ⟨m,b,g0,g1,g2,g4,g5,g6,g7,g8,hb,hk,wl,wo,wJ⟩;cases b with
 | false =>
  simp only[push_cast,lp174_1,g8,simprocAttr];refine hexit _ _ ?_ ?_ ?_ ?_ ?_ wl wo wJ
  all_goals first | assumption | (simp only[push_cast,g0,g1,g2,g4,g5,simprocAttr])
 | true =>
  obtain⟨m1,m2⟩:=hb rfl;have hWl:W[bl]?=some (.cells true [.int .i64 y,.int .i64 lm,.int .i64 ld]):=by rw[wo bl hbl hbX]; exact hXl
  have hn0:∀q:Prop,(n0<=W.length\/q)=True:=fun q=>by simp; omega
  have wm1:=w64 (x:=m+1);obtain⟨p1,p2,p3⟩:=D.at_ W (by omega) wJ;simp only[SD.cv] at p1
  by_cases e:lm=m
  ·have e':(lm==m)=true:=by simp[e]
   simp only[push_cast,lp174_1,g0,g1,g2,g4,g5,g6,g7,g8,hWl,hn0,e',simprocAttr];refine days_loop hE D (y:=y) (m:=m) (d0:=ld) hy1 hy2 (by omega) m2 (by simp[g0]) (by simp[g1]) (by simp[g2]) (by simp[g4]) (v5:=v5) (by simp[g5]) (v6:=.pointer (some ⟨bl,0,none⟩)) (by simp[g6]) (by simp[g7]) (v8:=.bool true) (by simp[g8]) (by simp) (by omega) (by omega) (fun d hd=>?_) (by omega) wJ ?_ ?_
   ·unfold dateGE
    by_cases hy:y=fy
    ·obtain⟨j1,j2⟩:=hl1 hy;omega
    ·omega
   ·intro f' X' q0 q1 q2 q4 q5 q6 q7 q8 ql qo qJ;obtain⟨p1',p2',p3'⟩:=D.at_ X' (by omega) qJ;simp only[SD.cv] at p1';simp only[push_cast,q1,q7,p1',wm1,simprocAttr];have h175:=c175 hE (lim:=n0) p3'.mo (D.ok.mo.wide (by omega) (by omega)) (n:=m+1) (most:=12) (by omega) (by omega);unfold PD.val at h175;refine h175.mono ?_;rintro v h' ⟨rfl,r,ok,rfl,hr⟩;simp only[push_cast,q0,q1,q2,q4,q5,q6,simprocAttr];refine⟨if ok then(14-r).toNat else 0,?_,r,ok,rfl,rfl,?_,rfl,by omega,fun i i1 i2=>by rw[qo i i1 (by omega)]; exact wo i i1 i2,qJ⟩
    ·rw[<- hk];simp only[↓reduceIte];split
     ·have:=hr (by assumption);omega
     ·omega
    ·intro hh;have:=hr hh;omega
   ·intro f' X' q1 q2;simp only[push_cast,simprocAttr];exact hret _ _ q1 q2
  ·have e':(lm==m)=false:=by simp[e]
   simp only[push_cast,lp174_1,g0,g1,g2,g4,g5,g6,g7,g8,hWl,hn0,e',simprocAttr];refine days_loop hE D (y:=y) (m:=m) (d0:=1) hy1 hy2 (by omega) m2 (by simp[g0]) (by simp[g1]) (by simp[g2]) (by simp[g4]) (v5:=v5) (by simp[g5]) (v6:=.pointer (some ⟨bl,0,none⟩)) (by simp[g6]) (by simp[g7]) (v8:=.bool true) (by simp[g8]) (by simp) (by omega) (by omega) (fun d hd=>?_) (by omega) wJ ?_ ?_
   ·unfold dateGE
    by_cases hy:y=fy
    ·obtain⟨j1,j2⟩:=hl1 hy;omega
    ·omega
   ·intro f' X' q0 q1 q2 q4 q5 q6 q7 q8 ql qo qJ;obtain⟨p1',p2',p3'⟩:=D.at_ X' (by omega) qJ;simp only[SD.cv] at p1';simp only[push_cast,q1,q7,p1',wm1,simprocAttr];have h175:=c175 hE (lim:=n0) p3'.mo (D.ok.mo.wide (by omega) (by omega)) (n:=m+1) (most:=12) (by omega) (by omega);unfold PD.val at h175;refine h175.mono ?_;rintro v h' ⟨rfl,r,ok,rfl,hr⟩;simp only[push_cast,q0,q1,q2,q4,q5,q6,simprocAttr];refine⟨if ok then(14-r).toNat else 0,?_,r,ok,rfl,rfl,?_,rfl,by omega,fun i i1 i2=>by rw[qo i i1 (by omega)]; exact wo i i1 i2,qJ⟩
    ·rw[<- hk];simp only[↓reduceIte];split
     ·have:=hr (by assumption);omega
     ·omega
    ·intro hh;have:=hr hh;omega
   ·intro f' X' q1 q2;simp only[push_cast,simprocAttr];exact hret _ _ q1 q2
theorem years_loop {n0 l bs bf:Nat}{s:SD}{fy fm fd:Int}{J Q:Hp->Prop}(D:DCtx E n0 l bs bf s fy fm fd J Q)(hfy:1970<=fy)(hfm:1<=fm)(hfm2:fm<=12)(hfd:1<=fd)(hfd2:fd<=31){y:Int}{b:Bool}{f:Fr}{X:Hp}
  (f0:f.rd 0=.func (.yield l) #[] #[])(f1:f.rd 1=.pointer (some ⟨bs,0,none⟩))(f2:f.rd 2=.pointer (some ⟨bf,0,none⟩))(f4:f.rd 4=.int .i64 y)(f5:f.rd 5=.bool b)
  (hb:b=true->fy<=y/\y<=2199)(hX:n0<=X.length)(hXJ:J (X.take n0)){P:AX->Fr->Hp->Prop}
  (hexit:∀f' X',n0<=X'.length->J (X'.take n0)->P (.exit 0) f' X')
  (hret:∀f' X',n0<=X'.length->Q (X'.take n0)->P .ret f' X'):Post (evK E n0 (.loop lp174_2) f X) P:=by
 refine loop_post hE.mono (fun k g W=>∃(y:Int) (b:Bool),g.rd 0=.func (.yield l) #[] #[]/\g.rd 1=.pointer (some ⟨bs,0,none⟩)/\g.rd 2=.pointer (some ⟨bf,0,none⟩)/\g.rd 4=.int .i64 y/\g.rd 5=.bool b /\
  (b=true->fy<=y/\y<=2199)/\(if b then(2201-y).toNat else 0)=k/\n0<=W.length/\J (W.take n0)) ?_ _ _ _ ⟨y,b,f0,f1,f2,f4,f5,hb,rfl,hX,hXJ⟩
 rintro k g W ⟨y,b,g0,g1,g2,g4,g5,hb,hk,wl,wJ⟩;cases b with
 | false =>
  simp only[push_cast,lp174_2,g5,simprocAttr];exact hexit _ _ wl wJ
 | true =>
  obtain⟨m1,m2⟩:=hb rfl;have hn0:∀q:Prop,(n0<=W.length\/q)=True:=fun q=>by simp; omega
  have wy1:=w64 (x:=y+1);obtain⟨p1,p2,p3⟩:=D.at_ W (by omega) wJ;simp only[SD.cv] at p1
  by_cases e:y=fy
  ·have e':(y==fy)=true:=by simp[e]
   simp only[push_cast,lp174_2,g0,g1,g2,g4,g5,get_old p1,get_old p2,hn0,e',simprocAttr];have h175:=c175 hE (lim:=n0) (p3.agr (Agr.app W [.cells true [.int .i64 fy,.int .i64 fm,.int .i64 fd]])).mo (D.ok.mo.wide (by omega) (by omega)) (n:=fm) (most:=12) (by omega) (by omega);unfold PD.val at h175;refine h175.mono ?_;rintro v h' ⟨rfl,r,ok,rfl,hr⟩;simp only[push_cast,g0,g1,g2,g4,g5,simprocAttr];refine months_loop hE D (y:=y) (m:=r) (b:=ok) (lm:=fm) (ld:=fd) (bl:=W.length) (by omega) (by omega) (by omega) (by omega) (by omega) (by omega) (by omega) (by simp[g0]) (by simp[g1]) (by simp[g2]) (by simp[g4]) (v5:=.bool true) (by simp[g5]) (by simp) (by simp) (by simp) hr (by omega) (by simp; omega) (by simp only[push_cast,e,simprocAttr]) (by rw[take_take_app (by omega)]; exact wJ) ?_ ?_
   ·intro f' X' q0 q1 q2 q4 q5 ql qo qJ;simp only[List.length_append,List.length_cons,List.length_nil] at ql;obtain⟨p1',p2',p3'⟩:=D.at_ X' (by omega) qJ;simp only[SD.cv] at p1';simp only[push_cast,q1,q4,p1',wy1,simprocAttr];have h175:=c175 hE (lim:=n0) p3'.yr (D.ok.yr.wide (by omega) (by omega)) (n:=y+1) (most:=2199) (by omega) (by omega);unfold PD.val at h175;refine h175.mono ?_;rintro v h' ⟨rfl,r,ok,rfl,hr⟩;simp only[push_cast,q0,q1,q2,simprocAttr];refine⟨if ok then(2201-r).toNat else 0,?_,r,ok,rfl,rfl,?_,rfl,by omega,qJ⟩
    ·rw[<- hk];simp only[↓reduceIte];split
     ·have:=hr (by assumption);omega
     ·omega
    ·intro hh;have:=hr hh;omega
   ·intro f' X' q1 q2;simp only[push_cast,simprocAttr];exact hret _ _ q1 q2
  ·have e':(y==fy)=false:=by simp[e]
   simp only[push_cast,lp174_2,g0,g1,g2,g4,g5,get_old p1,get_old p2,hn0,e',simprocAttr];have h175:=c175 hE (lim:=n0) (p3.agr (Agr.app W [.cells true [.int .i64 y,.int .i64 1,.int .i64 1]])).mo (D.ok.mo.wide (by omega) (by omega)) (n:=1) (most:=12) (by omega) (by omega);unfold PD.val at h175;refine h175.mono ?_;rintro v h' ⟨rfl,r,ok,rfl,hr⟩;simp only[push_cast,g0,g1,g2,g4,g5,simprocAttr];refine months_loop hE D (y:=y) (m:=r) (b:=ok) (lm:=1) (ld:=1) (bl:=W.length) (by omega) (by omega) (by omega) (by omega) (by omega) (by omega) (by omega) (by simp[g0]) (by simp[g1]) (by simp[g2]) (by simp[g4]) (v5:=.bool true) (by simp[g5]) (by simp) (by simp) (by simp) hr (by omega) (by simp; omega) (by simp only[push_cast,e,simprocAttr]) (by rw[take_take_app (by omega)]; exact wJ) ?_ ?_
   ·intro f' X' q0 q1 q2 q4 q5 ql qo qJ;simp only[List.length_append,List.length_cons,List.length_nil] at ql;obtain⟨p1',p2',p3'⟩:=D.at_ X' (by omega) qJ;simp only[SD.cv] at p1';simp only[push_cast,q1,q4,p1',wy1,simprocAttr];have h175:=c175 hE (lim:=n0) p3'.yr (D.ok.yr.wide (by omega) (by omega)) (n:=y+1) (most:=2199) (by omega) (by omega);unfold PD.val at h175;refine h175.mono ?_;rintro v h' ⟨rfl,r,ok,rfl,hr⟩;simp only[push_cast,q0,q1,q2,simprocAttr];refine⟨if ok then(2201-r).toNat else 0,?_,r,ok,rfl,rfl,?_,rfl,by omega,qJ⟩
    ·rw[<- hk];simp only[↓reduceIte];split
     ·have:=hr (by assumption);omega
     ·omega
    ·intro hh;have:=hr hh;omega
   ·intro f' X' q1 q2;simp only[push_cast,simprocAttr];exact hret _ _ q1 q2
theorem c174 {X:Hp}{l bs bf:Nat}{s:SD}{fy fm fd:Int}{J Q:Hp->Prop}(D:DCtx E X.length l bs bf s fy fm fd J Q)(hfy:1970<=fy)(hfy2:fy<=100000)(hfm:1<=fm)(hfm2:fm<=12)(hfd:1<=fd)(hfd2:fd<=31)(hJ:J X) :
  PostV (evI E lim (.func 174) [.func (.yield l) #[] #[],.pointer (some ⟨bs,0,none⟩),.pointer (some ⟨bf,0,none⟩)] X) fun _ X'=>J X'\/Q X':=by
 obtain⟨p1,p2,p3⟩:=D.at_ X (Nat.le_refl _) (by rw[List.take_length]; exact hJ);simp only[SD.cv] at p1;rw[hE.fn T174]; simp only[push_cast,ac174,p1,p2,simprocAttr];have h175:=c175 hE (lim:=X.length) p3.yr (D.ok.yr.wide (by omega) (by omega)) (n:=fy) (most:=2199) (by omega) (by omega);unfold PD.val at h175;refine h175.mono ?_;rintro v h' ⟨rfl,r,ok,rfl,hr⟩;simp only[push_cast,simprocAttr];refine years_loop hE D hfy hfm hfm2 hfd hfd2 (y:=r) (b:=ok) (by simp) (by simp) (by simp) (by simp) (by simp) hr (Nat.le_refl _) (by rw[List.take_length]; exact hJ) ?_ ?_
 ·intro f' X' q1 q2;simp only[push_cast,simprocAttr];exact .inl q2
 ·intro f' X' q1 q2;simp only[push_cast,simprocAttr];exact .inr q2
end
section
theorem sP_eq (y:Int):sP y=365*y+y/4-y/100+y/400:=by unfold sP; omega
theorem sP_lt {y z:Int}(h:y<z):sP y+365<=sP z:=by rw[sP_eq,sP_eq]; omega
theorem leapF_eq {y:Int}(h:1<=y):leapF y=true<->(y%4=0/\(y%100≠0\/y%400=0)):=by
 unfold leapF;rw[Int.tmod_eq_emod_of_nonneg (by omega),Int.tmod_eq_emod_of_nonneg (by omega),Int.tmod_eq_emod_of_nonneg (by omega)];simp
theorem sP_leap {y:Int}(h:1<=y)(hl:leapF y=true):sP (y-1)+366=sP y:=by
 rw[leapF_eq h] at hl;rw[sP_eq,sP_eq]; omega
theorem sP_cyc {e Y:Int}(h0:0<=Y)(h1:Y<=399):sP (e*400+Y)=e*146097+sY Y:=by unfold sP sY; omega
theorem daysP_of {n:Int}(h1:-719162<=n)(h2:n<=2932896):daysP (ofF n).1 (ofF n).2.1 (ofF n).2.2=n:=by
 obtain⟨y0,y1,r0,r1⟩:=cyc ((n+719468)%146097) (by omega) (by omega) _ rfl;unfold ofF daysP;simp only;have hn:=Int.mul_ediv_add_emod (n+719468) 146097;generalize gO ((n+719468)%146097)/365=Y at *;have e1:=sP_cyc (e:=(n+719468)/146097) y0 y1;generalize (n+719468)/146097=e at *;generalize (n+719468)%146097=o at *;generalize sY Y=q at *;generalize hr:o-q=r at *;generalize hM:(5*r+2)/153=M at *;have m0:0<=M/\M<=11:=by omega
 have e2:((M+2)%12+1+9)%12=M:=by omega
 have e3:(if(M+2)%12+1<=2 then(if(M+2)%12+1<=2 then e*400+Y+1 else e*400+Y)-1 else(if(M+2)%12+1<=2 then e*400+Y+1 else e*400+Y))=e*400+Y:=by
  split<;>omega
 rw[e2,e3,e1];omega
theorem offv {m:Int}(h:1<=m)(h2:m<=12):(m=1/\(153*((m+9)%12)+2)/5=306)\/(m=2/\(153*((m+9)%12)+2)/5=337)\/(m=3/\(153*((m+9)%12)+2)/5=0)\/(m=4/\(153*((m+9)%12)+2)/5=31)\/(m=5/\(153*((m+9)%12)+2)/5=61)\/(m=6/\(153*((m+9)%12)+2)/5=92) \/
  (m=7/\(153*((m+9)%12)+2)/5=122)\/(m=8/\(153*((m+9)%12)+2)/5=153)\/(m=9/\(153*((m+9)%12)+2)/5=184)\/(m=10/\(153*((m+9)%12)+2)/5=214)\/(m=11/\(153*((m+9)%12)+2)/5=245)\/(m=12/\(153*((m+9)%12)+2)/5=275):=by
 have:m=1\/m=2\/m=3\/m=4\/m=5\/m=6\/m=7\/m=8\/m=9\/m=10\/m=11\/m=12:=by omega
 rcases this with rfl | rfl | rfl | rfl | rfl | rfl | rfl | rfl | rfl | rfl | rfl | rfl<;>simp
theorem long_le {y m:Int}(h:1<=m)(h2:m<=12):(m=2/\leapF y=true/\longF y m<=29)\/(m=2/\longF y m<=28)\/((m=4\/m=6\/m=9\/m=11)/\longF y m<=30)\/(longF y m<=31/\(m=1\/m=3\/m=5\/m=7\/m=8\/m=10\/m=12)):=by
 unfold longF;split
 ·omega
 ·split
  ·rename_i h; simp only[h.2,and_true,true_and]; omega
  ·split
   ·omega
   ·split<;>omega
theorem days_lt {y m d y' m' d':Int}(hr:rightF y m d=true)(hm1:1<=m')(hm2:m'<=12)(hd1:1<=d')(hg:y<y'\/(y=y'/\(m<m'\/(m=m'/\d<d')))):daysP y m d<daysP y' m' d':=by
 obtain⟨a1,a2,a3,a4,a5,a6⟩:=right_in hr;simp only[rightF,Bool.and_eq_true,decide_eq_true_eq] at hr;have hl:=long_le (y:=y) a3 a4;have s1:=sP_lt (y:=y-1) (z:=y) (by omega);have s2:=sP_lt (y:=y'-1) (z:=y') (by omega);have o1:=offv a3 a4;have o2:=offv hm1 hm2
 have hleap:¬(m=2/\d=29)\/sP (y-1)+366=sP y:=by
  by_cases e:m=2/\d=29
  ·refine .inr (sP_leap a1 ?_);rcases hl with hl | hl | hl | hl<;>first | exact hl.2.1 | omega
  ·exact .inl e
 unfold daysP;generalize (153*((m+9)%12)+2)/5=D at *;generalize (153*((m'+9)%12)+2)/5=D' at *;rcases hg with hg | ⟨rfl,hg⟩
 ·have s3:=sP_lt (y:=y-1) (z:=y') (by omega)
  have s4:sP y<=sP (y'-1):=by
   by_cases e:y=y'-1
   ·rw[e]; exact Int.le_refl _
   ·have:=sP_lt (y:=y) (z:=y'-1) (by omega); omega
  have lo:sP (y'-1)+306<=sP (if m'<=2 then y'-1 else y')+D'+d'-1:=by
   rcases o2 with⟨rfl,rfl⟩ | ⟨rfl,rfl⟩ | ⟨rfl,rfl⟩ | ⟨rfl,rfl⟩ | ⟨rfl,rfl⟩ | ⟨rfl,rfl⟩ | ⟨rfl,rfl⟩ | ⟨rfl,rfl⟩ | ⟨rfl,rfl⟩ | ⟨rfl,rfl⟩ | ⟨rfl,rfl⟩ | ⟨rfl,rfl⟩<;>simp only[Int.reduceLE,↓reduceIte]<;>omega
  have hi:sP (if m<=2 then y-1 else y)+D+d-1<=sP y+305:=by
   rcases o1 with⟨rfl,rfl⟩ | ⟨rfl,rfl⟩ | ⟨rfl,rfl⟩ | ⟨rfl,rfl⟩ | ⟨rfl,rfl⟩ | ⟨rfl,rfl⟩ | ⟨rfl,rfl⟩ | ⟨rfl,rfl⟩ | ⟨rfl,rfl⟩ | ⟨rfl,rfl⟩ | ⟨rfl,rfl⟩ | ⟨rfl,rfl⟩<;>simp only[Int.reduceLE,↓reduceIte]<;>omega
  omega
 ·clear s2;rcases hg with hg | ⟨rfl,hg⟩
  ·clear hm1 hm2 a3 a4;rcases o1 with⟨rfl,rfl⟩ | ⟨rfl,rfl⟩ | ⟨rfl,rfl⟩ | ⟨rfl,rfl⟩ | ⟨rfl,rfl⟩ | ⟨rfl,rfl⟩ | ⟨rfl,rfl⟩ | ⟨rfl,rfl⟩ | ⟨rfl,rfl⟩ | ⟨rfl,rfl⟩ | ⟨rfl,rfl⟩ | ⟨rfl,rfl⟩<;>simp only[Int.reduceLE,Int.reduceEq,↓reduceIte,Int.reduceEq,not_false_eq_true,not_true_eq_false,false_and,false_or,or_false,or_true,and_true,true_or,true_and,and_false] at hl hleap ⊢ <;>
   rcases o2 with⟨rfl,rfl⟩ | ⟨rfl,rfl⟩ | ⟨rfl,rfl⟩ | ⟨rfl,rfl⟩ | ⟨rfl,rfl⟩ | ⟨rfl,rfl⟩ | ⟨rfl,rfl⟩ | ⟨rfl,rfl⟩ | ⟨rfl,rfl⟩ | ⟨rfl,rfl⟩ | ⟨rfl,rfl⟩ | ⟨rfl,rfl⟩<;>simp only[Int.reduceLE,↓reduceIte]<;>omega
  ·omega
end
section
open Tb
noncomputable def aa63:AC:=(.reg [o 8 (.zero [z,z,z]),n (.st 3 (t 8) (t 31))])
noncomputable def ba63:AC:=(.block 1 (.seq (.reg [o 32 (.build [z,z,z] []),o 9 (.zero [z,z,z]),n (.st 3 (t 9) (t 32))]) (.seq (.seq (.reg [o 33 (.ldn 3 (t 8)),o 34 (.off 0 (t 6)),o 35 (.ldn 3 (t 34)),o 36 (.eqd false true [.int .i64,.int .i64,.int .i64] (t 33) (t 35))]) (.cond (t 36) (.reg [o 37 (.off 3 (t 6)),o 38 (.ld (t 37)),o 39 (.off 4 (t 6)),o 40 (.ld (t 39)),o 41 (.off 5 (t 6)),o 42 (.ld (t 41)),o 43 (.bin .mul (t 42) (i 1000000)),o 44 (.off 6 (t 6)),o 45 (.ld (t 44)),o 46 (.bin .add (t 43) (t 45)),o 47 (.build [z,z,z] [(0,1,(t 38)),(1,1,(t 40)),(2,1,(t 46))]),n (.st 3 (t 9) (t 47))]) (.skip))) (.seq (.reg [o 49 (.ldn 9 (t 2)),o 50 (.ldn 3 (t 9)),o 51 (.call (.func 116) [(t 49),(t 50)]),o 48 (.mov (t 51)),o 52 (.ext (t 48) 0),o 53 (.ext (t 48) 1),o 10 (.zero [z,z,z]),n (.st 3 (t 10) (t 52)),o 11 (.mov (t 53))]) (.seq (.reg [o 54 (.mov (t 11))]) (.cond (t 54) (.seq (.reg [o 56 (.ldn 3 (t 8)),o 57 (.build [z,z,z,z,z,z,z] [(0,3,(t 56))]),o 58 (.call (.func 84) [(t 57)]),o 55 (.mov (t 58)),o 59 (.ext (t 55) 0),o 60 (.ext (t 55) 1),o 12 (.mov (t 59)),o 13 (.mov (t 60))]) (.seq (.reg [o 61 (.mov (t 12)),o 62 (.ixA 3 1 (t 10) (i 0)),o 63 (.ld (t 62)),o 64 (.bin .mul (t 63) (i 60)),o 65 (.ixA 3 1 (t 10) (i 1)),o 66 (.ld (t 65)),o 67 (.bin .add (t 64) (t 66)),o 68 (.bin .mul (t 67) (i 60)),o 69 (.bin .mul (t 68) (i 1000000)),o 70 (.bin .add (t 61) (t 69)),o 71 (.ixA 3 1 (t 10) (i 2)),o 72 (.ld (t 71)),o 73 (.bin .add (t 70) (t 72)),n (.st 1 (t 4) (t 73)),n (.st 1 (t 5) tt)]) (.ret))) (.skip)))))))
noncomputable def L63 (F:Fr)(st:RS):Blk:=.loop 74 F [31] rc63.1 rc63.2 aa63 ba63 st
theorem putL_one {f:Fr}{k:Nat}{v:Value}:putL f [k] [v]=f.st k v:=rfl
theorem microF_eq {y m d:Int}(h:rightF y m d=true):microF y m d 0 0 0 0=daysP y m d*86400000000:=by
 obtain⟨a1,a2,a3,a4,a5,a6⟩:=right_in h;have:=daysP_in a1 a2 a3 a4 a5 a6;unfold microF;rw[daysF_eq a1 a2 a3 a4 a5 a6];simp(disch:=omega) only[wrap64];omega
variable {E:Env}(hE:EnvT E){lim:Nat}{h:Hp}
include hE
theorem c115 (s:SD)(y m d:Int)(hlim:lim<=h.length):evI E lim (.func 115) [.agg #[.int .u8 s.days,s.yr.val,s.mo.val,s.dy.val,.bool s.en,s.hr.val,s.mi.val,s.se.val,.bool s.utc],.agg #[.int .i64 y,.int .i64 m,.int .i64 d]] h =
  some (.func (.func 174) #[] #[.pointer (some ⟨h.length,0,none⟩),.pointer (some ⟨h.length+1,0,none⟩)],h++[.cells true s.cv,.cells true [.int .i64 y,.int .i64 m,.int .i64 d]]):=by
 unfold PD.val;have:(lim<=h.length)=True:=by simp[hlim]
 rw[hE.fn T115]; simp only[push_cast,ac115,this,simprocAttr];simp[SD.cv]
theorem step63 {s:SD}(H:s.In h)(hok:s.Ok){F:Fr}(F2:F.rd 2=.pointer (some ⟨h.length,0,none⟩))(F4:F.rd 4=.pointer (some ⟨h.length+1,0,none⟩))(F5:F.rd 5=.pointer (some ⟨h.length+2,0,none⟩))(F6:F.rd 6=.pointer (some ⟨h.length+3,0,none⟩))
  {fy fm fd ch cm cs cu:Int}(hc:0<=ch/\ch<=23/\0<=cm/\cm<=59/\0<=cs/\cs<=59/\0<=cu/\cu<1000000){X:Hp}{v1 v2:Value}
  (p0:X[h.length]?=some (.cells true s.cv))(p1:X[h.length+1]?=some (.cells true [v1]))(p2:X[h.length+2]?=some (.cells true [v2]))(p3:X[h.length+3]?=some (.cells true [.int .i64 fy,.int .i64 fm,.int .i64 fd,.int .i64 ch,.int .i64 cm,.int .i64 cs,.int .i64 cu]))
  (pl:X[h.length+6]?=some (L63 F .ready))(A:Agr h X){y m d:Int}(hr:rightF y m d=true)(hy:y<=2199)(hX:h.length+7<=X.length) :
  PostV (evI E (h.length+7) (.yield (h.length+6)) [.agg #[.int .i64 y,.int .i64 m,.int .i64 d]] X) fun v X'=>X.length<=X'.length/\(∀i,h.length+7<=i->i<X.length->X'[i]?=X[i]?) /\
   ((v=.bool true/\∀i,i<X.length->X'[i]?=X[i]?)\/(v=.bool false/\∃q0 q1 q2:Int,(0<=q0/\q0<=23/\0<=q1/\q1<=59/\0<=q2/\q2<=59999999)/\((y=fy/\m=fm/\d=fd)->ch<q0\/(ch=q0/\(cm<q1\/(cm=q1/\cs*1000000+cu<=q2)))) /\
    X'[h.length+1]?=some (.cells true [.int .i64 (daysP y m d*86400000000+q0*3600000000+q1*60000000+q2)])/\X'[h.length+2]?=some (.cells true [.bool true])/\X'[h.length+6]?=some (L63 F (.over .ret))/\Agr h X')):=by
 obtain⟨a1,a2,a3,a4,a5,a6⟩:=right_in hr;have pl':=pl;unfold L63 at pl';have hn0:∀q:Prop,(h.length+7<=X.length\/q)=True:=fun q=>by simp[hX]
 refine yield_post hE.mono pl' rfl ?_;unfold aa63;simp only[push_cast,hn0,putL_one,simprocAttr];refine⟨_,turn_get (get_old pl'),?_⟩;have hl:h.length+6<X.length:=by omega
 rw[set_old hl];generalize hW:X.set (h.length+6) (Blk.loop 74 F [31] rc63.1 rc63.2 aa63 ba63 .busy)=W;have wl:W.length=X.length:=by rw[<- hW]; simp
 have wo:∀i,i≠h.length+6->W[i]?=X[i]?:=fun i hi=>by rw[<- hW]; exact List.getElem?_set_ne (by omega)
 have w0:=(wo (h.length) (by omega)).trans p0;have w1:=(wo (h.length+1) (by omega)).trans p1;have w2:=(wo (h.length+2) (by omega)).trans p2;have w3:=(wo (h.length+3) (by omega)).trans p3;have w6:W[h.length+6]?=some (Blk.loop 74 F [31] rc63.1 rc63.2 aa63 ba63 .busy):=by rw[<- hW]; exact set_get hl
 have AW:Agr h W:=by rw[<- hW]; exact A.set (by omega) _
 unfold SD.cv at w0;have wl':X.length=W.length:=wl.symm;have hn1:∀q:Prop,(h.length+7<=W.length\/q)=True:=fun q=>by simp; omega
 have hmo:microOk y m d 0 0 0 0=true:=by simp[microOk,hr]
 have wc1:=w64 (x:=cs*1000000);have wc2:=w64 (x:=cs*1000000+cu);have dp:=daysP_in a1 a2 a3 a4 a5 a6;have sw1:∀l x,(W++l).set (h.length+1) x=W.set (h.length+1) x++l:=fun l x=>set_old (by omega);have sw2:∀l x,(W.set (h.length+1) x++l)[h.length+2]?=some (.cells true [v2]):=fun l x=>by rw[get_lt (by simp; omega),set_ne (by omega)]; exact w2
 have sw3:∀l x y,(W.set (h.length+1) x++l).set (h.length+2) y=(W.set (h.length+1) x).set (h.length+2) y++l:=fun l x y=>set_old (by simp; omega)
 by_cases e:y=fy/\m=fm/\d=fd
 ·have eqd:(y==fy&&(m==fm&&d==fd))=true:=by simp[e]
  have h116:=c116 hE (lim:=h.length+7) (H.agr (AW.trans (Agr.app W [.cells true [.int .i64 y,.int .i64 m,.int .i64 d],.cells true [.int .i64 ch,.int .i64 cm,.int .i64 (cs*1000000+cu)]]))) hok (f0:=ch) (f1:=cm) (f2:=(cs*1000000+cu)) (by omega);unfold PD.val at h116;obtain⟨v,h',e116,rfl,q0,q1,q2,r,rfl,hq⟩:=h116.out;clear h116;cases r with
  | false =>
   unfold ba63;simp only[push_cast,F2,F4,F5,F6,get_old w0,get_old w3,wl',le_app,hn1,eqV,lksEq,lkEq,eqd,wc1,wc2,e116,w6,simprocAttr];refine⟨_,turn_get (get_old w6),?_⟩;rw[set_old (by omega),<- hW,List.set_set,set_same pl'];refine⟨by simp,fun i i1 i2=>get_lt (by simp at i2; exact i2),.inl fun i i2=>get_lt (by simp at i2; exact i2)⟩
  | true =>
   obtain⟨hq1,hq2⟩:=hq rfl
   have wn:IntKind.i64.wrap (IntKind.i64.wrap (daysP y m d*86400000000+IntKind.i64.wrap (IntKind.i64.wrap (IntKind.i64.wrap (IntKind.i64.wrap (q0*60)+q1)*60)*1000000))+q2)=daysP y m d*86400000000+q0*3600000000+q1*60000000+q2:=by
    simp(disch:=omega) only[wrap64];omega
   unfold ba63;simp only[push_cast,F2,F4,F5,F6,get_old w0,get_old w3,wl',le_app,hn1,eqV,lksEq,lkEq,eqd,wc1,wc2,e116,get_old w1,c84 hE,hmo,microF_eq hr,sw1,sw2,sw3,wn,simprocAttr];refine⟨_,turn_get (get_old (by rw[set_ne (by omega),set_ne (by omega)]; exact w6)),?_⟩;rw[set_old (by simp; omega)];refine⟨by simp,fun i i1 i2=>?_,.inr ⟨_,_,_,hq2,fun _=>hq1,?_,?_,?_,?_⟩⟩
   ·rw[get_lt (by simpa using i2),set_ne (by omega),set_ne (by omega),set_ne (by omega)];exact wo i (by omega)
   ·rw[get_lt (by simp; omega),set_ne (by omega),set_ne (by omega),set_get (by omega)]
   ·rw[get_lt (by simp; omega),set_ne (by omega),set_get (by simp; omega)]
   ·rw[get_lt (by simp; omega),set_get (by simp; omega)];rfl
   ·exact(((AW.set (by omega) _).set (by omega) _).set (by omega) _).trans (Agr.app _ _)
 ·have eqd:(y==fy&&(m==fm&&d==fd))=false:=by rw[Bool.eq_false_iff]; simp; omega
  have h116:=c116 hE (lim:=h.length+7) (H.agr (AW.trans (Agr.app W [.cells true [.int .i64 y,.int .i64 m,.int .i64 d],.cells true [.int .i64 0,.int .i64 0,.int .i64 0]]))) hok (f0:=0) (f1:=0) (f2:=0) (by omega);unfold PD.val at h116;obtain⟨v,h',e116,rfl,q0,q1,q2,r,rfl,hq⟩:=h116.out;clear h116;cases r with
  | false =>
   unfold ba63;simp only[push_cast,F2,F4,F5,F6,get_old w0,get_old w3,wl',le_app,hn1,eqV,lksEq,lkEq,eqd,wc1,wc2,e116,w6,simprocAttr];refine⟨_,turn_get (get_old w6),?_⟩;rw[set_old (by omega),<- hW,List.set_set,set_same pl'];refine⟨by simp,fun i i1 i2=>get_lt (by simp at i2; exact i2),.inl fun i i2=>get_lt (by simp at i2; exact i2)⟩
  | true =>
   obtain⟨hq1,hq2⟩:=hq rfl
   have wn:IntKind.i64.wrap (IntKind.i64.wrap (daysP y m d*86400000000+IntKind.i64.wrap (IntKind.i64.wrap (IntKind.i64.wrap (IntKind.i64.wrap (q0*60)+q1)*60)*1000000))+q2)=daysP y m d*86400000000+q0*3600000000+q1*60000000+q2:=by
    simp(disch:=omega) only[wrap64];omega
   unfold ba63;simp only[push_cast,F2,F4,F5,F6,get_old w0,get_old w3,wl',le_app,hn1,eqV,lksEq,lkEq,eqd,wc1,wc2,e116,get_old w1,c84 hE,hmo,microF_eq hr,sw1,sw2,sw3,wn,simprocAttr];refine⟨_,turn_get (get_old (by rw[set_ne (by omega),set_ne (by omega)]; exact w6)),?_⟩;rw[set_old (by simp; omega)];refine⟨by simp,fun i i1 i2=>?_,.inr ⟨_,_,_,hq2,fun hh=>absurd hh e,?_,?_,?_,?_⟩⟩
   ·rw[get_lt (by simpa using i2),set_ne (by omega),set_ne (by omega),set_ne (by omega)];exact wo i (by omega)
   ·rw[get_lt (by simp; omega),set_ne (by omega),set_ne (by omega),set_get (by omega)]
   ·rw[get_lt (by simp; omega),set_ne (by omega),set_get (by simp; omega)]
   ·rw[get_lt (by simp; omega),set_get (by simp; omega)];rfl
   ·exact(((AW.set (by omega) _).set (by omega) _).set (by omega) _).trans (Agr.app _ _)
end
section
open Tb
theorem clock_in (n:Int):0<=(clockF n).1/\(clockF n).1<=23/\0<=(clockF n).2.1/\(clockF n).2.1<=59/\0<=(clockF n).2.2.1/\(clockF n).2.2.1<=59/\0<=(clockF n).2.2.2/\(clockF n).2.2.2<1000000:=by
 unfold clockF; simp only; omega
theorem clock_sum (n:Int):(clockF n).1*3600000000+(clockF n).2.1*60000000+((clockF n).2.2.1*1000000+(clockF n).2.2.2)=n%86400000000:=by
 unfold clockF; simp only; omega
theorem ofF_in {n:Int}(h1:-719162<=n)(h2:n<=2932896):1<=(ofF n).2.1/\(ofF n).2.1<=12/\1<=(ofF n).2.2/\(ofF n).2.2<=31:=by
 obtain⟨y0,y1,r0,r1⟩:=cyc ((n+719468)%146097) (by omega) (by omega) _ rfl;unfold ofF; simp only; omega
theorem ofF_1970 {n:Int}(h1:0<=n)(h2:n<=2932896):1970<=(ofF n).1:=by
 have e:=daysP_of (n:=n) (by omega) h2;obtain⟨m1,m2,d1,d2⟩:=ofF_in (n:=n) (by omega) h2;refine Classical.byContradiction fun hc=>?_;have o2:=offv m1 m2;unfold daysP at e;have s1:(ofF n).1<=1969:=by omega
 have s2:sP (ofF n).1<=719162:=by rw[sP_eq]; omega
 have s3:sP ((ofF n).1-1)<=718797:=by rw[sP_eq]; omega
 split at e<;>omega
theorem cyc2 (o:Int)(h0:0<=o)(h1:o<146097)(y:Int)(hy:y=gO o/365)(h2:y<=398):o<sY (y+1):=by
 have hg:0<=gO o/\gO o<146000:=by unfold gO; omega
 obtain⟨n,rfl⟩:=Int.eq_ofNat_of_zero_le (show 0<=y by omega);have k1:=yearOk_all (n+1) (by omega);simp only[yearOk,Bool.and_eq_true,decide_eq_true_eq] at k1;refine Classical.byContradiction fun hc=>?_
 have hs:sY ((n+1:Nat):Int)<=o:=by have e:((n+1:Nat):Int)=(n:Int)+1:=by omega
                                   rw[e]; omega
 have:=gO_mono (sY ((n+1:Nat):Int)) (sY_pos _ (by omega)) (o-sY ((n+1:Nat):Int)).toNat;have e:sY ((n+1:Nat):Int)+(((o-sY ((n+1:Nat):Int)).toNat:Nat):Int)=o:=by omega
 rw[e] at this;have:=k1.1;omega
theorem ofF_right {n:Int}(h1:-719162<=n)(h2:n<=2932896)(hy1:1<=(ofF n).1)(hy2:(ofF n).1<=9999):rightF (ofF n).1 (ofF n).2.1 (ofF n).2.2=true:=by
 obtain⟨y0,y1,r0,r1⟩:=cyc ((n+719468)%146097) (by omega) (by omega) _ rfl;have c2:=cyc2 ((n+719468)%146097) (by omega) (by omega) _ rfl;simp only[rightF,Bool.and_eq_true,decide_eq_true_eq];unfold ofF at *;simp only at *;generalize hY:gO ((n+719468)%146097)/365=Y at *;generalize hE:(n+719468)/146097=e at *
 have hq:Y<=398->sY Y+365+(if leapF (e*400+Y+1)=true then 1 else 0)=sY (Y+1):=fun h=>by
  by_cases hl:leapF (e*400+Y+1)=true
  ·rw[if_pos hl];rw[leapF_eq (by omega)] at hl;unfold sY;omega
  ·rw[if_neg hl];rw[leapF_eq (by omega)] at hl;unfold sY;omega
 have hq2:Y=399->leapF (e*400+Y+1)=true:=fun h=>by
  rw[leapF_eq (by omega)]; omega
 generalize (n+719468)%146097=o at *;generalize sY (Y+1)=q1 at *;generalize sY Y=q at *;generalize hr:o-q=r at *;have hM0:0<=(5*r+2)/153:=by omega
 have hM1:(5*r+2)/153<=11:=by omega
 refine⟨by omega,?_⟩;have:(5*r+2)/153=11\/(5*r+2)/153=0\/(5*r+2)/153=1\/(5*r+2)/153=2\/(5*r+2)/153=3\/(5*r+2)/153=4\/(5*r+2)/153=5\/(5*r+2)/153=6\/(5*r+2)/153=7\/(5*r+2)/153=8\/(5*r+2)/153=9\/(5*r+2)/153=10:=by omega
 rcases this with hM | hM | hM | hM | hM | hM | hM | hM | hM | hM | hM | hM
 ·rw[hM] at hy1 hy2 ⊢;simp only[Int.reduceAdd,Int.reduceMod,Int.reduceLE,↓reduceIte,Int.reduceMul,Int.reduceDiv] at hy1 hy2 ⊢;unfold longF;rw[if_neg (by omega)]
  by_cases hl:leapF (e*400+Y+1)=true
  ·simp only[hl,and_self,↓reduceIte];omega
  ·simp only[hl,Bool.false_eq_true,and_false,↓reduceIte];rw[if_neg hl] at hq
   have:Y<=398:=by
    refine Classical.byContradiction fun hc=>hl (hq2 (by omega))
   have:=hq this;have:=c2 (by omega);omega
 all_goals
  rw[hM] at hy1 hy2 ⊢;simp only[Int.reduceAdd,Int.reduceMod,Int.reduceLE,↓reduceIte,Int.reduceMul,Int.reduceDiv] at hy1 hy2 ⊢;unfold longF;rw[if_neg (by omega)];simp only[Int.reduceEq,false_and,↓reduceIte,or_false,or_true,false_or,or_self];omega
theorem days_2199 {y m d:Int}(hr:rightF y m d=true)(hy:y<=2199):daysP y m d<=84005:=by
 have:=days_lt (y:=y) (m:=m) (d:=d) (y':=2200) (m':=1) (d':=1) hr (by omega) (by omega) (by omega) (.inl (by omega));have e:daysP 2200 1 1=84006:=by decide
 omega
theorem not_ahead {N y m d q0 q1 q2:Int}(h0:0<=N)(h1:N<253402300800000000)(hr:rightF y m d=true)(hy:y<=2199)(hg:dateGE y m d (ofF (N/86400000000)).1 (ofF (N/86400000000)).2.1 (ofF (N/86400000000)).2.2)
  (hq:0<=q0/\q0<=23/\0<=q1/\q1<=59/\0<=q2/\q2<=59999999)(hc:(y=(ofF (N/86400000000)).1/\m=(ofF (N/86400000000)).2.1/\d=(ofF (N/86400000000)).2.2)->(clockF N).1<q0\/((clockF N).1=q0/\((clockF N).2.1<q1\/((clockF N).2.1=q1/\(clockF N).2.2.1*1000000+(clockF N).2.2.2<=q2)))) :
  N<=daysP y m d*86400000000+q0*3600000000+q1*60000000+q2/\daysP y m d*86400000000+q0*3600000000+q1*60000000+q2<=7258118400000000:=by
 have e:=daysP_of (n:=N/86400000000) (by omega) (by omega);obtain⟨m1,m2,d1,d2⟩:=ofF_in (n:=N/86400000000) (by omega) (by omega);have u:=days_2199 hr hy;have ci:=clock_in N;have cs:=clock_sum N;refine⟨?_,by omega⟩
 by_cases heq:y=(ofF (N/86400000000)).1/\m=(ofF (N/86400000000)).2.1/\d=(ofF (N/86400000000)).2.2
 ·have:=hc heq;obtain⟨rfl,rfl,rfl⟩:=heq;rw[e];omega
 ·obtain⟨a1,a2,a3,a4,a5,a6⟩:=right_in hr;have:=days_lt (y:=(ofF (N/86400000000)).1) (m:=(ofF (N/86400000000)).2.1) (d:=(ofF (N/86400000000)).2.2) (y':=y) (m':=m) (d':=d) (ofF_right (by omega) (by omega) (by have:=ofF_1970 (n:=N/86400000000) (by omega) (by omega); omega) (by unfold dateGE at hg; omega)) (by omega) (by omega) (by omega) (by unfold dateGE at hg; omega);omega
variable {E:Env}(hE:EnvT E){lim:Nat}{h:Hp}
include hE
theorem take_get {X Z:Hp}{n i:Nat}(e:X.take n=Z)(hi:i<n):X[i]?=Z[i]?:=by rw[<- e,List.getElem?_take_of_lt hi]
theorem take_ext {X Z:Hp}{n:Nat}(hl:Z.length=n)(hX:n<=X.length)(hh:∀i,i<n->X[i]?=Z[i]?):X.take n=Z:=by
 refine List.ext_getElem? fun i=>?_
 by_cases hi:i<n
 ·rw[List.getElem?_take_of_lt hi]; exact hh i hi
 ·rw[List.getElem?_eq_none (by simp; omega),List.getElem?_eq_none (by omega)]
theorem rf63 {s:SD}(H:s.In h)(hok:s.Ok){N:Int}(hN0:0<=N)(hN1:N<253402300800000000){F:Fr}(F2:F.rd 2=.pointer (some ⟨h.length,0,none⟩))(F4:F.rd 4=.pointer (some ⟨h.length+1,0,none⟩))(F5:F.rd 5=.pointer (some ⟨h.length+2,0,none⟩))(F6:F.rd 6=.pointer (some ⟨h.length+3,0,none⟩))
  (F30:F.rd 30=.func (.func 174) #[] #[.pointer (some ⟨h.length+4,0,none⟩),.pointer (some ⟨h.length+5,0,none⟩)]){H1:Hp}(hl:H1.length=h.length+6){v1 v2:Value}
  (p0:H1[h.length]?=some (.cells true s.cv))(p1:H1[h.length+1]?=some (.cells true [v1]))(p2:H1[h.length+2]?=some (.cells true [v2]))(p3:H1[h.length+3]?=some (.cells true [.int .i64 (ofF (N/86400000000)).1,.int .i64 (ofF (N/86400000000)).2.1,.int .i64 (ofF (N/86400000000)).2.2,.int .i64 (clockF N).1,.int .i64 (clockF N).2.1,.int .i64 (clockF N).2.2.1,.int .i64 (clockF N).2.2.2]))
  (p4:H1[h.length+4]?=some (.cells true s.cv))(p5:H1[h.length+5]?=some (.cells true [.int .i64 (ofF (N/86400000000)).1,.int .i64 (ofF (N/86400000000)).2.1,.int .i64 (ofF (N/86400000000)).2.2]))
  (A:Agr h H1){P:AX->Fr->Hp->Prop}(hn:∀X,Agr h X->X[h.length+1]?=some (.cells true [v1])->X[h.length+2]?=some (.cells true [v2])->P .norm F X)
  (hr:∀X n,Agr h X->N<=n->n<=7258118400000000->X[h.length+1]?=some (.cells true [.int .i64 n])->X[h.length+2]?=some (.cells true [.bool true])->P .ret F X):Post (evK E lim (.rf (.tmp 30) 74 [31] rc63.1 rc63.2 aa63 ba63) F H1) P:=by
 refine rf_post hE.mono F30 ?_;rw[hl];have hX1:(H1++[L63 F .ready]).length=h.length+7:=by simp; omega
 have q6:(H1++[L63 F .ready])[h.length+6]?=some (L63 F .ready):=by rw[<- hl,get_app0]; rfl
 have hA1:Agr h (H1++[L63 F .ready]):=A.trans (Agr.app _ _)
 have D:DCtx E (H1++[L63 F .ready]).length (h.length+6) (h.length+4) (h.length+5) s (ofF (N/86400000000)).1 (ofF (N/86400000000)).2.1 (ofF (N/86400000000)).2.2 (fun Z=>Z=H1++[L63 F .ready])
   (fun Z=>Z.length=h.length+7/\∃n,N<=n/\n<=7258118400000000/\Z[h.length+1]?=some (.cells true [.int .i64 n])/\Z[h.length+2]?=some (.cells true [.bool true])/\Z[h.length+6]?=some (L63 F (.over .ret))/\Agr h Z):=by
  rw[hX1]
  have hag:∀X:Hp,X.take (h.length+7)=H1++[L63 F .ready]->Agr h X:=fun X hJ i k e=>by
   have:=lt_of_get e;rw[take_get hE hJ (by omega)];exact hA1 i k e
  refine⟨hok,fun X hl2 hJ=>⟨?_,?_,H.agr (hag X hJ)⟩,fun X y m d hl2 hJ hrt hy1 hy2 hge=>?_⟩
  ·rw[take_get hE hJ (by omega),get_lt (by omega)]; exact p4
  ·rw[take_get hE hJ (by omega),get_lt (by omega)]; exact p5
  ·refine(step63 hE H hok F2 F4 F5 F6 (fy:=(ofF (N/86400000000)).1) (fm:=(ofF (N/86400000000)).2.1) (fd:=(ofF (N/86400000000)).2.2) (clock_in N) (X:=X) (v1:=v1) (v2:=v2) ?_ ?_ ?_ ?_ ?_ (hag X hJ) hrt hy2 hl2).mono ?_
   ·rw[take_get hE hJ (by omega),get_lt (by omega)]; exact p0
   ·rw[take_get hE hJ (by omega),get_lt (by omega)]; exact p1
   ·rw[take_get hE hJ (by omega),get_lt (by omega)]; exact p2
   ·rw[take_get hE hJ (by omega),get_lt (by omega)]; exact p3
   ·rw[take_get hE hJ (by omega)]; exact q6
   ·rintro v X' ⟨s1,s2,⟨rfl,s3⟩ | ⟨rfl,q0,q1,q2,hq,hc,t1,t2,t6,tA⟩⟩
    ·refine⟨s1,s2,.inl ⟨rfl,?_⟩⟩;rw[<- hJ];exact take_ext hE (by simp; omega) (by omega) (fun i hi=>by rw[s3 i (by omega),List.getElem?_take_of_lt hi])
    ·obtain⟨n1,n2⟩:=not_ahead hN0 hN1 hrt hy2 hge hq hc;refine⟨s1,s2,.inr ⟨rfl,by simp; omega,_,n1,n2,?_,?_,?_,?_⟩⟩
     ·rw[List.getElem?_take_of_lt (by omega)]; exact t1
     ·rw[List.getElem?_take_of_lt (by omega)]; exact t2
     ·rw[List.getElem?_take_of_lt (by omega)]; exact t6
     ·intro i k e;have:=lt_of_get e;rw[List.getElem?_take_of_lt (by omega)];exact tA i k e
 have o1:=ofF_in (n:=N/86400000000) (by omega) (by omega);have o2:=ofF_1970 (n:=N/86400000000) (by omega) (by omega);have o3:=ofF_year (n:=N/86400000000) (by omega) (by omega);refine(c174 hE D (lim:=lim) o2 (by omega) o1.1 o1.2.1 o1.2.2.1 o1.2.2.2 rfl).mono ?_;rintro v X' (rfl | ⟨zl,n,n1,n2,t1,t2,t6,tA⟩)
 ·refine .inl ⟨_,_,_,_,_,_,_,q6,?_⟩;have q:(H1++[L63 F .ready]).set (h.length+6) .dead=H1++[.dead]:=by rw[<- hl,set_app0]; rfl
  rw[q];exact hn _ (A.trans (Agr.app _ _)) (get_old p1) (get_old p2)
 ·refine .inr ⟨_,_,_,_,_,_,_,_,t6,?_⟩;exact hr _ n (tA.set (by omega) _) n1 n2 (by rw[set_ne (by omega)]; exact t1) (by rw[set_ne (by omega)]; exact t2)
theorem c63 {s:SD}(H:s.In h)(hB:s.Bd)(t:Int)(t1:-9223372036854775808<=t)(t2:t<=9223372036854775807):PostV (evI E lim (.func 63) [.agg #[.int .u8 s.days,s.yr.val,s.mo.val,s.dy.val,.bool s.en,s.hr.val,s.mi.val,s.se.val,.bool s.utc],.int .i64 t] h) fun v h'=>h'=h/\∃n ok,v=.tuple #[.int .i64 n,.bool ok]/\-9223372036854775808<=n/\n<=9223372036854775807/\(ok=true->max t 0<=n/\n<=7258118400000000):=by
 by_cases hr:max t 0<253402300800000000
 ·obtain⟨r,e39,hok⟩:=c39 hE (lim:=h.length) (H.agr (Agr.app h [.cells true s.cv,.cells true [.int .i64 0],.cells true [.bool false],.cells true [.int .i64 (ofF (max t 0/86400000000)).1,.int .i64 (ofF (max t 0/86400000000)).2.1,.int .i64 (ofF (max t 0/86400000000)).2.2,.int .i64 (clockF (max t 0)).1,.int .i64 (clockF (max t 0)).2.1,.int .i64 (clockF (max t 0)).2.2.1,.int .i64 (clockF (max t 0)).2.2.2]]));unfold SD.cv PD.val at e39;unfold PD.val;cases r with
  | false =>
   rw[hE.fn T63]; simp only[push_cast,ac63,c83 hE (max t 0) (by omega) hr,e39,le_app,simprocAttr];exact⟨0,false,rfl,by omega,by omega,fun h=>by cases h⟩
  | true =>
   rw[hE.fn T63]; simp only[push_cast,ac63,c83 hE (max t 0) (by omega) hr,e39,le_app,simprocAttr];have h115:=fun y m d (X:Hp) (hX:h.length<=X.length)=>c115 hE (lim:=h.length) (h:=X) s y m d hX;unfold PD.val at h115;simp only[push_cast,h115,le_app,simprocAttr];refine rf63 hE H (hok rfl hB) (N:=max t 0) (by omega) hr (by simp) (by simp) (by simp) (by simp) (by simp) (by simp) (get_app0.trans rfl) (get_app.trans rfl) (get_app.trans rfl) (get_app.trans rfl) (get_app.trans rfl) (get_app.trans rfl) (Agr.app _ _) ?_ ?_
   ·intro X A x1 x2;have l1:=lt_of_get x1;have l2:=lt_of_get x2;have z1:∀a,(X.set (h.length+1) a)[h.length+2]?=some (.cells true [.bool false]):=fun a=>by rw[set_ne (by omega)]; exact x2
    have z2:∀a b,((X.set (h.length+1) a).set (h.length+2) b)[h.length+1]?=some a:=fun a b=>by rw[set_ne (by omega),set_get l1]
    have z3:∀a b,((X.set (h.length+1) a).set (h.length+2) b)[h.length+2]?=some b:=fun a b=>by rw[set_get (by simpa using l2)]
    simp only[push_cast,x1,x2,z1,z2,z3,simprocAttr];refine⟨take_ext hE rfl (by simp; omega) fun i hi=>?_,0,false,rfl,by omega,by omega,fun h=>by cases h⟩;rw[set_ne (by omega),set_ne (by omega),List.getElem?_eq_getElem hi];exact A i _ (List.getElem?_eq_getElem hi)
   ·intro X n A n1 n2 x1 x2;have l2:=lt_of_get x2;simp only[push_cast,x1,x2,simprocAttr];refine⟨take_ext hE rfl (by omega) fun i hi=>?_,n,true,rfl,by omega,by omega,fun _=>⟨n1,n2⟩⟩;rw[List.getElem?_eq_getElem hi];exact A i _ (List.getElem?_eq_getElem hi)
 ·unfold PD.val;rw[hE.fn T63]; simp only[push_cast,ac63,c83_out hE (max t 0) (by omega) (by omega) (by omega),le_app,simprocAttr];exact⟨0,false,rfl,by omega,by omega,fun h=>by cases h⟩
end
section
open Tb
variable {E:Env}(hE:EnvT E){lim:Nat}{h:Hp}
include hE
theorem c40 (s:SD)(Z:Option ZN)(hlim:lim<=h.length):evI E lim (.func 40) [.agg #[.int .u8 s.days,s.yr.val,s.mo.val,s.dy.val,.bool s.en,s.hr.val,s.mi.val,s.se.val,.bool s.utc],zv Z] h =
  some (zv (if s.utc then none else Z),h++[.cells true s.cv]):=by
 have:(lim<=h.length)=True:=by simp[hlim]
 unfold PD.val;cases hu:s.utc with
 | true=>rw[hE.fn T40]; simp only[push_cast,ac40,this,simprocAttr]
         simp[SD.cv,hu,zv]
 | false=>rw[hE.fn T40]; simp only[push_cast,ac40,this,simprocAttr]
          simp[SD.cv,hu]
theorem loop21 (hO:OffsOk E)(hS:SortOk E)(hN:SortNil E){s:SD}(H:s.In h)(hB:s.Bd){Z:Option ZN}(HZ:zin Z h){bs:Nat}(hbs:h[bs]?=some (.cells true s.cv)){lo hi:Int}(hlo:-93599000000<=lo/\lo<=93599000000)(hhi:-93599000000<=hi/\hi<=93599000000){p:Option Addr}(hp:zv Z=.pointer p)
  {f:Fr}{a:Int}(f1:f.rd 1=.pointer p)(f3:f.rd 3=.pointer (some ⟨bs,0,none⟩))(f6:f.rd 6=.int .i64 0)(f7:f.rd 7=.bool false)(f9:f.rd 9=.int .i64 lo)(f10:f.rd 10=.int .i64 hi)(f11:f.rd 11=.int .i64 a)(ha:0<=a)(ha2:a<=7258118400000000){P:AX->Fr->Hp->Prop}
  (hx:∀f',P (.exit 0) f' h)(hr0:∀f',f'.rd 6=.int .i64 0->f'.rd 7=.bool false->P .ret f' h)(hr1:∀f' n,a<=n->n<7258118400000000->f'.rd 6=.int .i64 n->f'.rd 7=.bool true->P .ret f' h):Post (evK E lim (.loop lp21_0) f h) P:=by
 refine loop_post hE.mono (fun k g W=>∃b:Int,g.rd 1=.pointer p/\g.rd 3=.pointer (some ⟨bs,0,none⟩)/\g.rd 6=.int .i64 0/\g.rd 7=.bool false/\g.rd 9=.int .i64 lo/\g.rd 10=.int .i64 hi/\g.rd 11=.int .i64 b/\a<=b/\b<=7258118400000000/\(7258118400000001-b).toNat=k/\W=h) ?_ _ _ _ ⟨a,f1,f3,f6,f7,f9,f10,f11,Int.le_refl _,ha2,rfl,rfl⟩;rintro k g W ⟨b,g1,g3,g6,g7,g9,g10,g11,hb1,hb2,hk,rfl⟩;have hbs':=hbs;simp only[SD.cv] at hbs'
 by_cases hlt:b<7258118400000000
 ·have hltb:decide (b<7258118400000000)=true:=by simp[hlt]
  have w1:=w64 (x:=b+lo);obtain⟨_,_,e1,rfl,n1,ok1,rfl,r1,r2,hn1⟩:=(c63 hE (lim:=lim) H hB (b+lo) (by omega) (by omega)).out;unfold PD.val at e1;cases ok1 with
  | false =>
   simp only[push_cast,lp21_0,g1,g3,g6,g7,g9,g10,g11,hbs',hlt,w1,e1,simprocAttr];refine hr0 _ ?_ ?_<;>simp only[push_cast,g6,g7,simprocAttr]
  | true =>
   obtain⟨n1a,n1b⟩:=hn1 rfl;have w2:=w64 (x:=n1-hi)
   by_cases hge:max b (n1-hi)>=7258118400000000
   ·simp only[push_cast,lp21_0,g1,g3,g6,g7,g9,g10,g11,hbs',hlt,w1,e1,w2,hge,ge_iff_le,simprocAttr];refine hr0 _ ?_ ?_<;>simp only[push_cast,g6,g7,simprocAttr]
   ·have hge':¬ 7258118400000000<=max b (n1-hi):=by omega
    generalize hat:max b (n1-hi)=at1 at *;have a1:b<=at1:=by omega
    obtain⟨_,_,e64,rfl,off,rfl,o1,o2⟩:=(c64 hE (lim:=lim) HZ at1 (by omega) (by omega)).out;obtain⟨_,_,e65,rfl,en,rfl,en1,en2,en3⟩:=(c65 hE (lim:=lim) hS hN HZ at1 (by omega) (by omega)).out;have en4:=en3 (by omega);have w3:=w64 (x:=at1+off);obtain⟨_,_,e2,rfl,n2,ok2,rfl,s1,s2,hn2⟩:=(c63 hE (lim:=lim) H hB (at1+off) (by omega) (by omega)).out;unfold PD.val at e2;rw[hp] at e64 e65;cases ok2 with
    | false =>
     simp only[push_cast,lp21_0,g1,g3,g6,g7,g9,g10,g11,hbs',hlt,w1,e1,w2,ge_iff_le,hat,hge',e64,e65,w3,e2,simprocAttr];refine⟨_,?_,en,rfl,by omega,by omega,rfl⟩;omega
    | true =>
     obtain⟨n2a,n2b⟩:=hn2 rfl;have w4:=w64 (x:=n2-off)
     by_cases hge2:en<=n2-off
     ·simp only[push_cast,lp21_0,g1,g3,g6,g7,g9,g10,g11,hbs',hlt,w1,e1,w2,ge_iff_le,hat,hge',e64,e65,w3,e2,w4,hge2,simprocAttr];refine⟨_,?_,en,rfl,by omega,by omega,rfl⟩;omega
     ·obtain⟨_,_,e43,rfl,fl,rfl,q1,q2⟩:=(c43 hE (lim:=lim) hO HZ (n2-off) (by omega) (by omega)).out;rw[hp] at e43
      by_cases hfl:fl=n2-off
      ·have hfl':(fl==n2-off)=true:=by simp[hfl]
       simp only[push_cast,lp21_0,g1,g3,g6,g7,g9,g10,g11,hbs',hlt,w1,e1,w2,ge_iff_le,hat,hge',e64,e65,w3,e2,w4,hge2,e43,hfl',simprocAttr];refine hr1 _ (n2-off) (by omega) (by omega) ?_ ?_<;>simp only[push_cast,simprocAttr]
      ·have hfl':(fl==n2-off)=false:=by simp[hfl]
       obtain⟨_,_,e652,rfl,en',rfl,en1',en2',en3'⟩:=(c65 hE (lim:=lim) hS hN HZ fl (by omega) (by omega)).out;obtain⟨_,_,e642,rfl,off',rfl,o1',o2'⟩:=(c64 hE (lim:=lim) HZ fl (by omega) (by omega)).out;rw[hp] at e652 e642;have w5:=w64 (x:=n2-off+1);have w6:=w64 (x:=en'+off');have w7:=w64 (x:=en'+off'-off);simp only[push_cast,lp21_0,g1,g3,g6,g7,g9,g10,g11,hbs',hlt,w1,e1,w2,ge_iff_le,hat,hge',e64,e65,w3,e2,w4,hge2,e43,hfl',e652,e642,w5,w6,w7,simprocAttr];refine⟨_,?_,_,rfl,?_,?_,rfl⟩<;>omega
 ·simp only[push_cast,lp21_0,g11,hlt,simprocAttr];exact hx _
theorem c21 (hO:OffsOk E)(hS:SortOk E)(hN:SortNil E){s:SD}(H:s.In h)(hB:s.Bd){Z:Option ZN}(HZ:zin Z h){u:Int}(u1:-9223372036854775808<=u)(u2:u<=9223372036854775807) :
  PostV (evI E lim (.func 21) [.agg #[.int .u8 s.days,s.yr.val,s.mo.val,s.dy.val,.bool s.en,s.hr.val,s.mi.val,s.se.val,.bool s.utc],zv Z,.int .i64 u] h) fun v h'=>h'=h/\((v=.tuple #[.int .i64 0,.bool false])\/∃n,v=.tuple #[.int .i64 n,.bool true]/\u<n/\0<=n/\n<7258118400000000):=by
 have e40:=c40 hE (lim:=h.length) (h:=h++[.cells true s.cv]) s Z (by simp)
 have hz:zin (if s.utc=true then none else Z) h:=by
  split
  ·exact fun _ h=>by cases h
  ·exact HZ
 obtain⟨v,h1,e62,b,xs,A,rfl,hb,hl,x1,x2,hx⟩:=(hO h.length (h++[.cells true s.cv,.cells true s.cv]) _ (hz.agr (Agr.app _ _))).out;obtain⟨p,hp⟩:=zv_ptr (if s.utc=true then none else Z);have hx0:=hx 0 (by omega);have hx1:=hx (xs.length-1) (by omega);have g0:=ints_get (xs:=xs) (i:=0) (by omega);have g1:=ints_get (xs:=xs) (i:=xs.length-1) (by omega);have Ah:Agr h h1:=(Agr.app h _).trans A;have hbs:h1[h.length]?=some (.cells true s.cv):=A _ _ get_app0;unfold PD.val at e40;rw[hp] at e62 e40;obtain⟨q,hq⟩:=zv_ptr Z;rw[hq] at e40;have hbs':=hbs;simp only[SD.cv] at hbs' e40 e62;have c1:((xs.length:Int)-1).toNat=xs.length-1:=by omega
 have c2:(0<=(xs.length:Int)-1)=True:=by simp; omega
 have c3:((xs.length:Int)-1<xs.length)=True:=by simp; omega
 have c4:=w64 (x:=(xs.length:Int)-1);have c5:(0<xs.length)=True:=by simp; omega
 have c6:=w64 (x:=xs.getD 0 0*1000000);have c7:=w64 (x:=xs.getD (xs.length-1) 0*1000000);unfold PD.val;rw[hq]
 by_cases hu:7258118400000000<=u
 ·rw[hE.fn T21]; simp only[push_cast,ac21,e40,List.append_assoc,e62,hl,g0,g1,c1,c2,c3,c4,c5,c6,c7,ge_iff_le,Int.ofNat_lt,Int.natCast_pos,Nat.mul_one,hu,simprocAttr];refine take_ext hE rfl Ah.le fun i hi=>?_;rw[List.getElem?_eq_getElem hi];exact Ah i _ (List.getElem?_eq_getElem hi)
 ·have c8:=w64 (x:=max u (-1)+1)
  have ht:h1.take h.length=h:=take_ext hE rfl Ah.le fun i hi=>by
   rw[List.getElem?_eq_getElem hi];exact Ah i _ (List.getElem?_eq_getElem hi)
  rw[hE.fn T21]; simp only[push_cast,ac21,e40,List.append_assoc,e62,hl,g0,g1,c1,c2,c3,c4,c5,c6,c7,ge_iff_le,Int.ofNat_lt,Int.natCast_pos,Nat.mul_one,hu,c8,simprocAttr];refine loop21 hE hO hS hN (h:=h1) (H.agr Ah) hB (hz.agr Ah) hbs (lo:=xs.getD 0 0*1000000) (hi:=xs.getD (xs.length-1) 0*1000000) (by omega) (by omega) hp (a:=max u (-1)+1) (by simp) (by simp) (by simp) (by simp) (by simp) (by simp) (by simp) (by omega) (by omega) ?_ ?_ ?_
  ·intro f';simp only[push_cast,ht,simprocAttr]
  ·intro f' f6 f7;simp only[push_cast,ht,f6,f7,simprocAttr]
  ·intro f' n n1 n2 f6 f7;simp only[push_cast,ht,f6,f7,simprocAttr];exact .inr ⟨n,rfl,by omega,by omega,n2⟩
end
section
open Tb
def begF (kind st ac up dn:Int):Option Int:=if kind=2 then some ac else if kind=3 then some 0 else if kind=4 then some st else if kind=5 then some up else if kind=6 then some dn else none
def dueF (kind span st ac up dn sp:Int):Option Int:=match begF kind st ac up dn with
 | none=>none
 | some b=>if fits (b+span)=true/\0<=min b span/\span≠9223372036854775807/\sp<b+span then some (b+span) else none
theorem dueF_gt {kind span st ac up dn sp n:Int}(h:dueF kind span st ac up dn sp=some n):sp<n/\0<=n/\n<=9223372036854775807/\kind≠1:=by
 unfold dueF at h;split at h
 ·cases h
 ·rename_i b hb;split at h
  ·rename_i hc;cases h;obtain⟨c1,c2,c3,c4⟩:=hc;simp only[fits,decide_eq_true_eq] at c1;refine⟨c4,by omega,c1.2,fun e=>?_⟩;subst e;simp[begF] at hb
  ·cases h
def oi (o:Option Int):Int:=match o with
 | some n=>n
 | none=>0
variable {E:Env}(hE:EnvT E){lim:Nat}{h:Hp}
include hE
theorem c119_cal {s:SD}{z:Value}{base n:Int}{ok:Bool}(span st ac up dn sp:Int)(tx:ByteArray)
  (hA:∀l,evI E h.length (.func 21) [.agg #[.int .u8 s.days,s.yr.val,s.mo.val,s.dy.val,.bool s.en,s.hr.val,s.mi.val,s.se.val,.bool s.utc],z,.int .i64 base] (h++l)=some (.tuple #[.int .i64 n,.bool ok],h++l)) :
  evI E lim (.func 119) [.agg #[.int .u8 1,.int .i64 span,.string tx],.agg #[.int .u8 s.days,s.yr.val,s.mo.val,s.dy.val,.bool s.en,s.hr.val,s.mi.val,s.se.val,.bool s.utc],z,.agg #[.int .i64 st,.int .i64 ac,.int .i64 up,.int .i64 dn,.int .i64 base,.int .i64 sp]] h =
   some (.tuple #[.agg #[.bool ok,.int .i64 n],.bool ok],h):=by
 unfold PD.val at *;rw[hE.fn T119]; simp only[push_cast,ac119,hA,simprocAttr]
theorem c119_mono {s:SD}{z:Value}{kind span st ac up dn base sp:Int}(tx:ByteArray)(hk:kind≠1)(h1:-9223372036854775808<=st/\st<=9223372036854775807)(h2:-9223372036854775808<=ac/\ac<=9223372036854775807)(h3:-9223372036854775808<=up/\up<=9223372036854775807)(h4:-9223372036854775808<=dn/\dn<=9223372036854775807)
  (h5:-9223372036854775808<=span/\span<=9223372036854775807) :
  evI E lim (.func 119) [.agg #[.int .u8 kind,.int .i64 span,.string tx],.agg #[.int .u8 s.days,s.yr.val,s.mo.val,s.dy.val,.bool s.en,s.hr.val,s.mi.val,s.se.val,.bool s.utc],z,.agg #[.int .i64 st,.int .i64 ac,.int .i64 up,.int .i64 dn,.int .i64 base,.int .i64 sp]] h =
   some (.tuple #[.agg #[.bool false,.int .i64 (oi (dueF kind span st ac up dn sp))],.bool (dueF kind span st ac up dn sp).isSome],h):=by
 unfold PD.val;have k1:(kind==1)=false:=by simp[hk]
 by_cases e2:kind=2
 ·subst e2;have hb:begF 2 st ac up dn=some ac:=rfl;cases hf:fits (ac+span) with
  | false =>
   have hd:dueF 2 span st ac up dn sp=none:=by simp only[dueF,hb]; rw[if_neg (by rw[hf]; simp)]
   rw[hE.fn T119]; simp only[push_cast,ac119,mfind,keyEq,keyIs,mapOf,zeroVal,c183 hE ac span h2.1 h2.2 h5.1 h5.2,hf,hd,oi,Option.isSome_none,simprocAttr]
  | true =>
   by_cases c1:min ac span<0
   ·have hd:dueF 2 span st ac up dn sp=none:=by simp only[dueF,hb]; rw[if_neg (by omega)]
    rw[hE.fn T119]; simp only[push_cast,ac119,mfind,keyEq,keyIs,mapOf,zeroVal,c183 hE ac span h2.1 h2.2 h5.1 h5.2,hf,hd,c1,oi,Option.isSome_none,simprocAttr]
   ·by_cases c2:span=9223372036854775807
    ·have hd:dueF 2 span st ac up dn sp=none:=by simp only[dueF,hb]; rw[if_neg (by omega)]
     have c2':(span==9223372036854775807)=true:=by simp[c2]
     rw[hE.fn T119]; simp only[push_cast,ac119,mfind,keyEq,keyIs,mapOf,zeroVal,c183 hE ac span h2.1 h2.2 h5.1 h5.2,hf,hd,c1,c2',oi,Option.isSome_none,simprocAttr]
    ·have c2':(span==9223372036854775807)=false:=by simp[c2]
     by_cases c3:ac+span<=sp
     ·have hd:dueF 2 span st ac up dn sp=none:=by simp only[dueF,hb]; rw[if_neg (by omega)]
      rw[hE.fn T119]; simp only[push_cast,ac119,mfind,keyEq,keyIs,mapOf,zeroVal,c183 hE ac span h2.1 h2.2 h5.1 h5.2,hf,hd,c1,c2',c3,oi,Option.isSome_none,simprocAttr]
     ·have hd:dueF 2 span st ac up dn sp=some (ac+span):=by simp only[dueF,hb]; rw[if_pos ⟨hf,by omega,by omega,by omega⟩]
      rw[hE.fn T119]; simp only[push_cast,ac119,mfind,keyEq,keyIs,mapOf,zeroVal,c183 hE ac span h2.1 h2.2 h5.1 h5.2,hf,hd,c1,c2',c3,oi,Option.isSome_some,simprocAttr]
 by_cases e3:kind=3
 ·subst e3;have hb:begF 3 st ac up dn=some 0:=rfl;cases hf:fits (0+span) with
  | false =>
   have hd:dueF 3 span st ac up dn sp=none:=by simp only[dueF,hb]; rw[if_neg (by rw[hf]; simp)]
   rw[hE.fn T119]; simp only[push_cast,ac119,mfind,keyEq,keyIs,mapOf,zeroVal,c183 hE 0 span (by omega) (by omega) h5.1 h5.2,hf,hd,oi,Option.isSome_none,simprocAttr]
  | true =>
   by_cases c1:min 0 span<0
   ·have hd:dueF 3 span st ac up dn sp=none:=by simp only[dueF,hb]; rw[if_neg (by omega)]
    rw[hE.fn T119]; simp only[push_cast,ac119,mfind,keyEq,keyIs,mapOf,zeroVal,c183 hE 0 span (by omega) (by omega) h5.1 h5.2,hf,hd,c1,oi,Option.isSome_none,simprocAttr]
   ·by_cases c2:span=9223372036854775807
    ·have hd:dueF 3 span st ac up dn sp=none:=by simp only[dueF,hb]; rw[if_neg (by omega)]
     have c2':(span==9223372036854775807)=true:=by simp[c2]
     rw[hE.fn T119]; simp only[push_cast,ac119,mfind,keyEq,keyIs,mapOf,zeroVal,c183 hE 0 span (by omega) (by omega) h5.1 h5.2,hf,hd,c1,c2',oi,Option.isSome_none,simprocAttr]
    ·have c2':(span==9223372036854775807)=false:=by simp[c2]
     by_cases c3:0+span<=sp
     ·have hd:dueF 3 span st ac up dn sp=none:=by simp only[dueF,hb]; rw[if_neg (by omega)]
      rw[hE.fn T119]; simp only[push_cast,ac119,mfind,keyEq,keyIs,mapOf,zeroVal,c183 hE 0 span (by omega) (by omega) h5.1 h5.2,hf,hd,c1,c2',c3,oi,Option.isSome_none,simprocAttr]
     ·have hd:dueF 3 span st ac up dn sp=some (0+span):=by simp only[dueF,hb]; rw[if_pos ⟨hf,by omega,by omega,by omega⟩]
      rw[hE.fn T119]; simp only[push_cast,ac119,mfind,keyEq,keyIs,mapOf,zeroVal,c183 hE 0 span (by omega) (by omega) h5.1 h5.2,hf,hd,c1,c2',c3,oi,Option.isSome_some,simprocAttr]
 by_cases e4:kind=4
 ·subst e4;have hb:begF 4 st ac up dn=some st:=rfl;cases hf:fits (st+span) with
  | false =>
   have hd:dueF 4 span st ac up dn sp=none:=by simp only[dueF,hb]; rw[if_neg (by rw[hf]; simp)]
   rw[hE.fn T119]; simp only[push_cast,ac119,mfind,keyEq,keyIs,mapOf,zeroVal,c183 hE st span h1.1 h1.2 h5.1 h5.2,hf,hd,oi,Option.isSome_none,simprocAttr]
  | true =>
   by_cases c1:min st span<0
   ·have hd:dueF 4 span st ac up dn sp=none:=by simp only[dueF,hb]; rw[if_neg (by omega)]
    rw[hE.fn T119]; simp only[push_cast,ac119,mfind,keyEq,keyIs,mapOf,zeroVal,c183 hE st span h1.1 h1.2 h5.1 h5.2,hf,hd,c1,oi,Option.isSome_none,simprocAttr]
   ·by_cases c2:span=9223372036854775807
    ·have hd:dueF 4 span st ac up dn sp=none:=by simp only[dueF,hb]; rw[if_neg (by omega)]
     have c2':(span==9223372036854775807)=true:=by simp[c2]
     rw[hE.fn T119]; simp only[push_cast,ac119,mfind,keyEq,keyIs,mapOf,zeroVal,c183 hE st span h1.1 h1.2 h5.1 h5.2,hf,hd,c1,c2',oi,Option.isSome_none,simprocAttr]
    ·have c2':(span==9223372036854775807)=false:=by simp[c2]
     by_cases c3:st+span<=sp
     ·have hd:dueF 4 span st ac up dn sp=none:=by simp only[dueF,hb]; rw[if_neg (by omega)]
      rw[hE.fn T119]; simp only[push_cast,ac119,mfind,keyEq,keyIs,mapOf,zeroVal,c183 hE st span h1.1 h1.2 h5.1 h5.2,hf,hd,c1,c2',c3,oi,Option.isSome_none,simprocAttr]
     ·have hd:dueF 4 span st ac up dn sp=some (st+span):=by simp only[dueF,hb]; rw[if_pos ⟨hf,by omega,by omega,by omega⟩]
      rw[hE.fn T119]; simp only[push_cast,ac119,mfind,keyEq,keyIs,mapOf,zeroVal,c183 hE st span h1.1 h1.2 h5.1 h5.2,hf,hd,c1,c2',c3,oi,Option.isSome_some,simprocAttr]
 by_cases e5:kind=5
 ·subst e5;have hb:begF 5 st ac up dn=some up:=rfl;cases hf:fits (up+span) with
  | false =>
   have hd:dueF 5 span st ac up dn sp=none:=by simp only[dueF,hb]; rw[if_neg (by rw[hf]; simp)]
   rw[hE.fn T119]; simp only[push_cast,ac119,mfind,keyEq,keyIs,mapOf,zeroVal,c183 hE up span h3.1 h3.2 h5.1 h5.2,hf,hd,oi,Option.isSome_none,simprocAttr]
  | true =>
   by_cases c1:min up span<0
   ·have hd:dueF 5 span st ac up dn sp=none:=by simp only[dueF,hb]; rw[if_neg (by omega)]
    rw[hE.fn T119]; simp only[push_cast,ac119,mfind,keyEq,keyIs,mapOf,zeroVal,c183 hE up span h3.1 h3.2 h5.1 h5.2,hf,hd,c1,oi,Option.isSome_none,simprocAttr]
   ·by_cases c2:span=9223372036854775807
    ·have hd:dueF 5 span st ac up dn sp=none:=by simp only[dueF,hb]; rw[if_neg (by omega)]
     have c2':(span==9223372036854775807)=true:=by simp[c2]
     rw[hE.fn T119]; simp only[push_cast,ac119,mfind,keyEq,keyIs,mapOf,zeroVal,c183 hE up span h3.1 h3.2 h5.1 h5.2,hf,hd,c1,c2',oi,Option.isSome_none,simprocAttr]
    ·have c2':(span==9223372036854775807)=false:=by simp[c2]
     by_cases c3:up+span<=sp
     ·have hd:dueF 5 span st ac up dn sp=none:=by simp only[dueF,hb]; rw[if_neg (by omega)]
      rw[hE.fn T119]; simp only[push_cast,ac119,mfind,keyEq,keyIs,mapOf,zeroVal,c183 hE up span h3.1 h3.2 h5.1 h5.2,hf,hd,c1,c2',c3,oi,Option.isSome_none,simprocAttr]
     ·have hd:dueF 5 span st ac up dn sp=some (up+span):=by simp only[dueF,hb]; rw[if_pos ⟨hf,by omega,by omega,by omega⟩]
      rw[hE.fn T119]; simp only[push_cast,ac119,mfind,keyEq,keyIs,mapOf,zeroVal,c183 hE up span h3.1 h3.2 h5.1 h5.2,hf,hd,c1,c2',c3,oi,Option.isSome_some,simprocAttr]
 by_cases e6:kind=6
 ·subst e6;have hb:begF 6 st ac up dn=some dn:=rfl;cases hf:fits (dn+span) with
  | false =>
   have hd:dueF 6 span st ac up dn sp=none:=by simp only[dueF,hb]; rw[if_neg (by rw[hf]; simp)]
   rw[hE.fn T119]; simp only[push_cast,ac119,mfind,keyEq,keyIs,mapOf,zeroVal,c183 hE dn span h4.1 h4.2 h5.1 h5.2,hf,hd,oi,Option.isSome_none,simprocAttr]
  | true =>
   by_cases c1:min dn span<0
   ·have hd:dueF 6 span st ac up dn sp=none:=by simp only[dueF,hb]; rw[if_neg (by omega)]
    rw[hE.fn T119]; simp only[push_cast,ac119,mfind,keyEq,keyIs,mapOf,zeroVal,c183 hE dn span h4.1 h4.2 h5.1 h5.2,hf,hd,c1,oi,Option.isSome_none,simprocAttr]
   ·by_cases c2:span=9223372036854775807
    ·have hd:dueF 6 span st ac up dn sp=none:=by simp only[dueF,hb]; rw[if_neg (by omega)]
     have c2':(span==9223372036854775807)=true:=by simp[c2]
     rw[hE.fn T119]; simp only[push_cast,ac119,mfind,keyEq,keyIs,mapOf,zeroVal,c183 hE dn span h4.1 h4.2 h5.1 h5.2,hf,hd,c1,c2',oi,Option.isSome_none,simprocAttr]
    ·have c2':(span==9223372036854775807)=false:=by simp[c2]
     by_cases c3:dn+span<=sp
     ·have hd:dueF 6 span st ac up dn sp=none:=by simp only[dueF,hb]; rw[if_neg (by omega)]
      rw[hE.fn T119]; simp only[push_cast,ac119,mfind,keyEq,keyIs,mapOf,zeroVal,c183 hE dn span h4.1 h4.2 h5.1 h5.2,hf,hd,c1,c2',c3,oi,Option.isSome_none,simprocAttr]
     ·have hd:dueF 6 span st ac up dn sp=some (dn+span):=by simp only[dueF,hb]; rw[if_pos ⟨hf,by omega,by omega,by omega⟩]
      rw[hE.fn T119]; simp only[push_cast,ac119,mfind,keyEq,keyIs,mapOf,zeroVal,c183 hE dn span h4.1 h4.2 h5.1 h5.2,hf,hd,c1,c2',c3,oi,Option.isSome_some,simprocAttr]
 have n2:(kind==2)=false:=by simp[e2]
 have n3:(kind==3)=false:=by simp[e3]
 have n4:(kind==4)=false:=by simp[e4]
 have n5:(kind==5)=false:=by simp[e5]
 have n6:(kind==6)=false:=by simp[e6]
 have hd:dueF kind span st ac up dn sp=none:=by simp[dueF,begF,e2,e3,e4,e5,e6]
 have hf:fits (0+span)=true:=by simp[fits]; omega
 rw[hE.fn T119]; simp only[push_cast,ac119,mfind,keyEq,keyIs,mapOf,zeroVal,c183 hE 0 span (by omega) (by omega) h5.1 h5.2,hf,hd,k1,n2,n3,n4,n5,n6,List.getD_cons_zero,oi,Option.isSome_none,simprocAttr]
end
section
open Tb
def idxB (s:ByteArray)(c:UInt8):Int:=match s.data.toList.findIdx? (·==c) with
 | some i=>i
 | none=>-1
def cntB (s:ByteArray)(c:UInt8):Nat:=s.data.toList.count c
theorem idxB_lt {s:ByteArray}{c:UInt8}:-1<=idxB s c/\idxB s c<s.size:=by
 unfold idxB;split
 ·rename_i i hi;have:=(List.findIdx?_eq_some_iff_findIdx_eq.1 hi).1;simp at this;have e:s.data.size=s.size:=rfl;omega
 ·omega
theorem cnt_none {s:ByteArray}{c:UInt8}(h:idxB s c<0):cntB s c=0:=by
 unfold idxB at h;unfold cntB;split at h
 ·omega
 ·rename_i hi;rw[List.findIdx?_eq_none_iff] at hi;rw[List.count_eq_zero];intro hm;have:=hi c hm;simp at this
theorem cnt_le (s:ByteArray)(c:UInt8):cntB s c<=s.size:=by
 unfold cntB;have:=List.count_le_length (a:=c) (l:=s.data.toList);simpa using this
theorem cnt_cut {s:ByteArray}{c:UInt8}(h:0<=idxB s c):cntB (s.extract ((idxB s c).toNat+1) s.size) c+1=cntB s c:=by
 unfold idxB at h ⊢;unfold cntB;split at h
 ·rename_i i hi;obtain⟨h1,h2⟩:=List.findIdx?_eq_some_iff_findIdx_eq.1 hi
  have hs:(s.extract (i+1) s.size).data.toList=s.data.toList.drop (i+1):=by
   rw[ByteArray.data_extract,Array.toList_extract,List.extract_eq_take_drop];rw[List.take_of_length_le];have:s.data.size=s.size:=rfl;simp
  simp only[hi,Int.toNat_natCast,hs]
  conv=>rhs; rw[<- List.take_append_drop (i+1) s.data.toList,List.count_append]
  have e:s.data.toList.take (i+1)=s.data.toList.take i++[s.data.toList[i]]:=by rw[List.take_succ_eq_append_getElem h1]
  have hc:s.data.toList[i]=c:=by
   have:=List.findIdx_getElem (p:=(·==c)) (xs:=s.data.toList) (w:=by rw[h2]; exact h1);simp only[h2] at this;simpa using this
  have h0:(s.data.toList.take i).count c=0:=by
   rw[List.count_eq_zero];intro hm;obtain⟨j,hj,e⟩:=List.mem_take_iff_getElem.1 hm;have:=List.not_of_lt_findIdx (p:=(·==c)) (xs:=s.data.toList) (i:=j) (by omega);simp[e] at this
  rw[e,List.count_append,h0,hc];simp;omega
 ·omega
def IdxOk (E:Env):Prop:=∀(lim:Nat) (s p:ByteArray) (h:Hp),s.size<1000000->p.size<1000000->∃i:Int,evI E lim (.func 162) [.string s,.string p] h=some (.int .i64 i,h)/\-1<=i/\(0<=i->i+p.size<=s.size)/\∀c,p=⟨#[c]⟩->i=idxB s c
def CntOk (E:Env):Prop:=∀(lim:Nat) (s:ByteArray) (c:UInt8) (h:Hp),s.size<1000000->evI E lim (.func 164) [.string s,.string ⟨#[c]⟩] h=some (.int .i64 (cntB s c),h)
variable {E:Env}(hE:EnvT E){lim:Nat}{h:Hp}
include hE
theorem c101 (hI:IdxOk E)(s p:ByteArray)(hs:s.size<1000000)(hp:p.size<1000000):∃i:Int,evI E lim (.func 101) [.string s,.string p] h=some (.int .i64 i,h)/\-1<=i/\(0<=i->i+p.size<=s.size)/\∀c,p=⟨#[c]⟩->i=idxB s c:=by
 obtain⟨i,e,r⟩:=hI h.length s p h hs hp;exact⟨i,by rw[hE.fn T101]; simp +contextual only[push_cast,ac101,e,simprocAttr],r⟩
theorem c101b (hI:IdxOk E)(s:ByteArray)(c:UInt8)(hs:s.size<1000000):evI E lim (.func 101) [.string s,.string ⟨#[c]⟩] h=some (.int .i64 (idxB s c),h):=by
 obtain⟨i,e,-,-,r⟩:=c101 hE hI (lim:=lim) (h:=h) s ⟨#[c]⟩ hs (by show 1<1000000; omega);rw[e,r c rfl]
theorem c52 (hI:IdxOk E)(s p:ByteArray)(hs:s.size<1000000)(hp:p.size<1000000):∃b,evI E lim (.func 52) [.string s,.string p] h=some (.bool b,h):=by
 obtain⟨i,e,r⟩:=c101 hE hI (lim:=h.length) (h:=h) s p hs hp;exact⟨_,by rw[hE.fn T52]; simp +contextual only[push_cast,ac52,e,simprocAttr]; rfl⟩
theorem c159 (hI:IdxOk E)(s p:ByteArray)(hs:s.size<1000000)(hp:p.size<1000000):∃a b t,evI E lim (.func 159) [.string s,.string p] h=some (.tuple #[.string a,.string b,.bool t],h)/\a.size<=s.size/\b.size<=s.size:=by
 obtain⟨i,e,r1,r2,-⟩:=hI h.length s p h hs hp
 by_cases h0:0<=i
 ·have:=r2 h0;have w:=w64 (x:=i+p.size);have b1:(i<=(s.size:Int))=True:=by simp; omega
  have b2:(i+(p.size:Int)<=(s.size:Int))=True:=by simp; omega
  have b3:(0<=i+(p.size:Int))=True:=by simp; omega
  refine⟨s.extract 0 i.toNat,s.extract (i+p.size).toNat s.size,true,?_,ex_size _ _ _,ex_size _ _ _⟩;rw[hE.fn T159]; simp +contextual only[push_cast,ac159,e,h0,w,b1,b2,b3,bound,Option.map_none,simprocAttr]
 ·refine⟨s,⟨#[]⟩,false,?_,Nat.le_refl _,Nat.zero_le _⟩;rw[hE.fn T159]; simp +contextual only[push_cast,ac159,e,h0,simprocAttr]
theorem c99 (hI:IdxOk E)(s p:ByteArray)(hs:s.size<1000000)(hp:p.size<1000000):∃a b t,evI E lim (.func 99) [.string s,.string p] h=some (.tuple #[.string a,.string b,.bool t],h)/\a.size<=s.size/\b.size<=s.size:=by
 obtain⟨a,b,t,e,r⟩:=c159 hE hI (lim:=h.length) (h:=h) s p hs hp;exact⟨a,b,t,by rw[hE.fn T99]; simp +contextual only[push_cast,ac99,e,simprocAttr],r⟩
theorem c164 (hC:CntOk E)(s:ByteArray)(c:UInt8)(hs:s.size<1000000):evI E lim (.func 164) [.string s,.string ⟨#[c]⟩] h=some (.int .i64 (cntB s c),h):=hC lim s c h hs
end
section
open Tb
def strs (xs:List ByteArray):List Value:=xs.map Value.string
theorem strs_len (xs:List ByteArray):(strs xs).length=xs.length:=List.length_map _
theorem strs_get {xs:List ByteArray}{i:Nat}(h:i<xs.length):(strs xs)[i]?=some (.string (xs.getD i ⟨#[]⟩)):=by
 unfold strs;rw[List.getElem?_map,List.getElem?_eq_getElem h,List.getD_eq_getElem?_getD,List.getElem?_eq_getElem h]; rfl
theorem strs_set (xs:List ByteArray)(i:Nat)(x:ByteArray):(strs xs).set i (.string x)=strs (xs.set i x):=by simp[strs,List.map_set]
theorem strs_repl (n:Nat):repl n [Value.string ⟨#[]⟩]=strs (List.replicate n ⟨#[]⟩):=by
 induction n with
 | zero=>rfl
 | succ n ih=>simp_all [repl,List.replicate_succ,strs]
theorem sgetD_set {xs:List ByteArray}{i j:Nat}{x:ByteArray}(h:i<xs.length):(xs.set i x).getD j ⟨#[]⟩=if i=j then x else xs.getD j ⟨#[]⟩:=by
 rw[List.getD_eq_getElem?_getD,List.getElem?_set,List.getD_eq_getElem?_getD];split<;>simp_all
variable {E:Env}(hE:EnvT E){lim:Nat}{h:Hp}
include hE
theorem c102 (hI:IdxOk E)(hC:CntOk E)(s:ByteArray)(c:UInt8)(hs:s.size<1000000)(hlim:lim<=h.length):PostV (evI E lim (.func 102) [.string s,.string ⟨#[c]⟩,.int .i64 0,.int .i64 (-1)] h) fun v h'=>∃xs:List ByteArray,v=.slice (some ⟨h.length,0,none⟩) xs.length 1/\h'=h++[.cells true (strs xs)]/\1<=xs.length/\xs.length<=s.size+1/\∀j,(xs.getD j ⟨#[]⟩).size<=s.size:=by
 have e1:=c164 hE hC (lim:=lim) (h:=h) s c hs
 have z0:((⟨#[c]⟩:ByteArray).toList==(⟨#[]⟩:ByteArray).toList)=false:=by
  have e1:(⟨#[c]⟩:ByteArray).toList=[c]:=by
   unfold ByteArray.toList;rw[ByteArray.toList.loop,if_pos (by show 0<1; omega),ByteArray.toList.loop,if_neg (by show ¬ 1<1; omega)];rfl
  have e2:(⟨#[]⟩:ByteArray).toList=[]:=by
   unfold ByteArray.toList;rw[ByteArray.toList.loop,if_neg (by show ¬ 0<0; omega)];rfl
  rw[e1,e2];rfl
 have z1:(⟨#[c]⟩:ByteArray).size=1:=rfl;have hc:=cnt_le s c;have w1:IntKind.i64.wrap ((cntB s c:Int)+1)=cntB s c+1:=wrap64 (by omega) (by omega);have w2:IntKind.i64.wrap ((s.size:Int)+1)=s.size+1:=wrap64 (by omega) (by omega);have w3:min ((cntB s c:Int)+1) (s.size+1)=cntB s c+1:=by omega
 have w4:IntKind.i64.wrap ((cntB s c:Int)+1-1)=cntB s c:=by rw[show((cntB s c:Int)+1-1)=cntB s c by omega]; exact wrap64 (by omega) (by omega)
 have t1:((cntB s c:Int)+1).toNat=cntB s c+1:=by omega
 have t2:(0<=(cntB s c:Int)+1)=True:=by simp; omega
 have t3:(((cntB s c:Int)+1)*16<=140737488355328)=True:=by simp; omega
 have t4:((cntB s c:Int)+1<=9223372036854775807)=True:=by simp; omega
 have hlm:(lim<=h.length)=True:=by simp[hlim]
 rw[hE.fn T102]; simp only[push_cast,ac102,e1,z0,w1,w2,w3,w4,t1,t2,t3,t4,strs_repl,Int.le_refl,simprocAttr]
 refine loop_post hE.mono (fun k f X=>∃(i:Nat) (r:ByteArray) (xs:List ByteArray),f.rd 0=.string r/\f.rd 1=.string ⟨#[c]⟩/\f.rd 2=.int .i64 0/\f.rd 3=.int .i64 (cntB s c)/\f.rd 9=.slice (some ⟨h.length,0,none⟩) (cntB s c+1) 1/\f.rd 10=.int .i64 i /\
  X=h++[.cells true (strs xs)]/\xs.length=cntB s c+1/\r.size<=s.size/\i+cntB r c=cntB s c/\(∀j,(xs.getD j ⟨#[]⟩).size<=s.size)/\cntB s c+1-i=k) ?_ (cntB s c+1) _ _ ?_
 ·rintro k f X ⟨i,r,xs,f0,f1,f2,f3,f9,f10,rfl,hl,hr,hi,hx,hk⟩;have ei:evI E lim (.func 101) [.string r,.string ⟨#[c]⟩] (h++[.cells true (strs xs)])=some (.int .i64 (idxB r c),h++[.cells true (strs xs)]):=c101b hE hI r c (by omega);have hic:i<=cntB s c:=by omega
  have x1:((i:Int)<(cntB s c:Int)+1)=True:=by simp; omega
  have x2:(i<cntB s c+1)=True:=by simp; omega
  have x3:(i<xs.length)=True:=by simp; omega
  have x4:IntKind.i64.wrap ((i:Int)+1)=i+1:=wrap64 (by omega) (by omega);have x5:((i:Int)+1).toNat=i+1:=by omega
  have x6:(0<=(i:Int)+1)=True:=by simp; omega
  have x7:((i:Int)+1<=(cntB s c:Int)+1)=True:=by simp; omega
  have x8:(i+1<=cntB s c+1)=True:=by simp; omega
  by_cases hlt:(i:Int)<cntB s c
  ·have hpos:0<=idxB r c:=by
    refine Classical.byContradiction fun hn=>?_;have:=cnt_none (s:=r) (c:=c) (by omega);omega
   have hb:=idxB_lt (s:=r) (c:=c);have hcut:=cnt_cut hpos;have y1:IntKind.i64.wrap (idxB r c+0)=idxB r c:=by rw[Int.add_zero]; exact wrap64 (by omega) (by omega)
   have y2:=w64 (x:=idxB r c+1);have y3:(idxB r c<=(r.size:Int))=True:=by simp; omega
   have y4:(idxB r c+1<=(r.size:Int))=True:=by simp; omega
   have y5:(0<=idxB r c+1)=True:=by simp; omega
   have y6:(idxB r c+1).toNat=(idxB r c).toNat+1:=by omega
   have y7:(idxB r c<0)=False:=by simp; omega
   have y8:(0<=idxB r c)=True:=by simp; omega
   simp only[push_cast,lp102_0,f0,f1,f2,f3,f9,f10,hlt,ei,z1,y1,y2,y3,y4,y5,y6,y7,y8,bound,Option.map_none,x1,x2,x3,x4,x8,strs_len,strs_set,hl,hlm,Int.natCast_nonneg,Nat.mul_one,simprocAttr];refine⟨cntB s c+1-(i+1),by omega,i+1,_,xs.set i (r.extract 0 (idxB r c).toNat),rfl,?_,rfl,by rw[List.length_set]; exact hl,Nat.le_trans (ex_size _ _ _) hr,by omega,fun j=>?_,rfl⟩
   ·rfl
   ·rw[sgetD_set (by omega)];split
    ·exact Nat.le_trans (ex_size _ _ _) hr
    ·exact hx j
  ·have hii:i=cntB s c:=by omega
   simp only[push_cast,lp102_0,f0,f1,f2,f3,f9,f10,hlt,x1,x2,x3,x4,x5,x6,x7,x8,strs_len,strs_set,hl,hlm,Int.natCast_nonneg,Nat.mul_one,bound,Option.map_none,simprocAttr];refine⟨xs.set i r,?_,rfl,by rw[List.length_set]; omega,by rw[List.length_set]; omega,fun j=>?_⟩
   ·first | (rw[List.length_set,hl,hii]; done) | (rw[List.length_set,hl,hii]; rfl)
   ·rw[sgetD_set (by omega)];split
    ·exact hr
    ·exact hx j
 ·refine⟨0,s,List.replicate (cntB s c+1) ⟨#[]⟩,rfl,rfl,rfl,rfl,rfl,rfl,rfl,by simp,Nat.le_refl _,by simp,fun j=>?_,by omega⟩;rw[List.getD_eq_getElem?_getD,List.getElem?_replicate];split<;>exact Nat.zero_le _
theorem c54 (hI:IdxOk E)(hC:CntOk E)(s:ByteArray)(c:UInt8)(hs:s.size<1000000)(hlim:lim<=h.length):PostV (evI E lim (.func 54) [.string s,.string ⟨#[c]⟩] h) fun v h'=>∃xs:List ByteArray,v=.slice (some ⟨h.length,0,none⟩) xs.length 1/\h'=h++[.cells true (strs xs)]/\1<=xs.length/\xs.length<=s.size+1/\∀j,(xs.getD j ⟨#[]⟩).size<=s.size:=by
 obtain⟨v,h',e,xs,rfl,rfl,r⟩:=(c102 hE hI hC (lim:=lim) s c hs hlim).out;rw[hE.fn T54]; simp only[push_cast,ac54,e,simprocAttr];exact⟨xs,rfl,rfl,r⟩
end
section
open Tb
theorem dec_pos (s:ByteArray)(i:Nat):1<=(Utf8.decode s i).2:=by
 simp only[Utf8.decode]
 repeat' split
 all_goals simp
theorem dec_le (s:ByteArray)(i:Nat)(h:i<s.size):i+(Utf8.decode s i).2<=s.size:=by
 simp only[Utf8.decode]
 repeat' split
 all_goals simp_all
 all_goals omega
def DecOk (E:Env):Prop:=∀(lim:Nat) (s:ByteArray) (h:Hp),s.size<1000000->∃r n:Int,evI E lim (.func 266) [.string s] h=some (.tuple #[.int .i32 r,.int .i64 n],h)/\0<=n/\n<=s.size/\(0<s.size->1<=n)
theorem size_ne {s:ByteArray}(h:(s.toList==(⟨#[]⟩:ByteArray).toList)=false):0<s.size:=by
 rcases Nat.eq_zero_or_pos s.size with h0 | h0
 ·have:s=⟨#[]⟩:=by
   have h1:s.data.size=0:=h0;have h2:s.data=#[]:=Array.eq_empty_of_size_eq_zero h1;cases s; simp_all
  subst this;simp at h
 ·exact h0
variable {E:Env}(hE:EnvT E){lim:Nat}{h:Hp}
include hE
theorem c336 (n:Int):∃b,evI E lim (.func 336) [.int .u8 n] h=some (.bool b,h):=⟨_,by rw[hE.fn T336]; simp +contextual only[push_cast,ac336,simprocAttr]; rfl⟩
theorem c325 {p:Nat}{q:Int->Bool}(hp:∀lim h c,evI E lim (.func p) [.int .i32 c] h=some (.bool (q c),h))(s:ByteArray)(b:Bool)(hs:s.size<1000000):∃i:Int,evI E lim (.func 325) [.string s,.func (.func p) #[] #[],.bool b] h=some (.int .i64 i,h)/\-1<=i/\i<s.size:=by
 suffices hh:PostV (evI E lim (.func 325) [.string s,.func (.func p) #[] #[],.bool b] h) fun v h'=>h'=h/\∃i:Int,v=.int .i64 i/\-1<=i/\i<s.size by
  obtain⟨v,h',e,rfl,i,rfl,r⟩:=hh.out;exact⟨i,e,r⟩
 rw[hE.fn T325]; simp only[push_cast,ac325,simprocAttr];refine loop_post hE.mono (fun k f X=>∃pos,f.rd 1=.func (.func p) #[] #[]/\f.rd 2=.bool b/\f.rd 10=.pointer (some ⟨h.length,0,none⟩)/\X=h++[.iter s pos]/\s.size-pos=k) ?_ s.size _ _ ⟨0,rfl,rfl,rfl,rfl,by omega⟩;rintro k f X ⟨pos,f1,f2,f10,rfl,hk⟩
 by_cases hpos:pos<s.size
 ·have hw:=dec_pos s pos;simp only[push_cast,lp325_0,f1,f2,f10,hpos,hp,eqV,lksEq,lkEq,simprocAttr];cases hc:q (Utf8.decode s pos).1==b with
  | true =>
   simp only[push_cast,simprocAttr];exact⟨pos,rfl,by omega,by omega⟩
  | false =>
   simp only[push_cast,f1,f2,f10,simprocAttr];exact⟨s.size-(pos+(Utf8.decode s pos).2),by omega,_,rfl,rfl⟩
 ·simp only[push_cast,lp325_0,f1,f2,f10,hpos,simprocAttr];exact⟨-1,rfl,by omega,by omega⟩
theorem c216 (hD:DecOk E)(s:ByteArray)(hs:s.size<1000000):∃r n:Int,evI E lim (.func 216) [.string s] h=some (.tuple #[.int .i32 r,.int .i64 n],h)/\0<=n/\n<=s.size/\(0<s.size->1<=n):=by
 obtain⟨r,n,e,rest⟩:=hD h.length s h hs;cases h0:s.toList==(⟨#[]⟩:ByteArray).toList with
 | true =>
  refine⟨r,n,?_,rest⟩;rw[hE.fn T216]; simp +contextual only[push_cast,ac216,h0,e,simprocAttr]
 | false =>
  have hp:=size_ne h0;obtain⟨c,hc⟩:=byte_get hp
  by_cases hlt:(c.toNat:Int)<128
  ·refine⟨IntKind.i32.wrap c.toNat,1,?_,by omega,by omega,fun _=>by omega⟩;rw[hE.fn T216]; simp +contextual only[push_cast,ac216,h0,hc,hlt,simprocAttr]
  ·refine⟨r,n,?_,rest⟩;rw[hE.fn T216]; simp +contextual only[push_cast,ac216,h0,hc,hlt,e,simprocAttr]
theorem c332 (hD:DecOk E)(s:ByteArray)(hs:s.size<1000000)(h0:0<s.size):∃r n:Int,evI E lim (.func 332) [.string s] h=some (.tuple #[.int .i32 r,.int .i64 n],h)/\1<=n/\n<=s.size:=by
 suffices hh:PostV (evI E lim (.func 332) [.string s] h) fun v h'=>h'=h/\∃r n:Int,v=.tuple #[.int .i32 r,.int .i64 n]/\1<=n/\n<=s.size by
  obtain⟨v,h',e,rfl,r,n,rfl,rr⟩:=hh.out;exact⟨r,n,e,rr⟩
 have n0:((s.size:Int)==0)=false:=by rw[beq_eq_false_iff_ne]; omega
 have w1:IntKind.i64.wrap ((s.size:Int)-1)=s.size-1:=wrap64 (by omega) (by omega);have w2:IntKind.i64.wrap ((s.size:Int)-4)=s.size-4:=wrap64 (by omega) (by omega);have w3:IntKind.i64.wrap ((s.size:Int)-1-1)=s.size-2:=by rw[show((s.size:Int)-1-1)=s.size-2 by omega]; exact wrap64 (by omega) (by omega)
 have b1:(0<=(s.size:Int)-1)=True:=by simp; omega
 obtain⟨c,hc⟩:=byte_get (s:=s) (i:=s.size-1) (by omega);have t1:((s.size:Int)-1).toNat=s.size-1:=by omega
 cases hc8:decide (IntKind.i32.wrap (c.toNat:Int)<128) with
 | true =>
  rw[hE.fn T332]; simp only[push_cast,ac332,n0,w1,w2,w3,b1,t1,hc,hc8,simprocAttr];exact⟨_,1,rfl,by omega,by omega⟩
 | false =>
  rw[hE.fn T332]; simp only[push_cast,ac332,n0,w1,w2,w3,b1,t1,hc,hc8,simprocAttr];refine loop_post hE.mono (fun k f X=>∃x:Int,f.rd 0=.string s/\f.rd 4=.int .i64 s.size/\f.rd 5=.int .i64 x/\f.rd 6=.int .i64 (max ((s.size:Int)-4) 0)/\-1<=x/\x<=s.size-2/\X=h/\(x+1).toNat=k) ?_ _ _ _ ⟨(s.size:Int)-2,rfl,rfl,rfl,rfl,by omega,by omega,rfl,rfl⟩;rintro k f X ⟨x,f0,f4,f5,f6,x1,x2,rfl,hk⟩
  by_cases hx:max ((s.size:Int)-4) 0<=x
  ·have g1:(0<=x)=True:=by simp; omega
   have dx:decide (x<0)=false:=by simp; omega
   obtain⟨d,hd⟩:=byte_get (s:=s) (i:=x.toNat) (by omega);obtain⟨r,hr⟩:=c336 hE (lim:=X.length) (h:=X) d.toNat;have w4:=w64 (x:=x-1);cases r with
   | true =>
    have ha:0<=x/\x<s.size:=by omega
    have z:(s.extract (x).toNat s.size).size=s.size-(x).toNat:=by rw[ByteArray.size_extract]; omega
    obtain⟨r2,n2,e216,m1,m2,m3⟩:=c216 hE hD (lim:=X.length) (h:=X) (s.extract (x).toNat s.size) (by omega);rw[z] at m2 m3;have m4:=m3 (by omega);have y1:(0<=x)=True:=by simp; omega
    have y2:(x<=(s.size:Int))=True:=by simp; omega
    have y3:=w64 (x:=x+n2);cases hne:(x+n2==(s.size:Int)) with
    | true =>
     simp only[push_cast,lp332_0,f0,f4,f5,f6,hx,hd,hr,dx,bound,Int.natCast_nonneg,Int.le_refl,y1,y2,y3,e216,hne,simprocAttr];exact⟨r2,n2,rfl,by omega,by omega⟩
    | false =>
     simp only[push_cast,lp332_0,f0,f4,f5,f6,hx,hd,hr,dx,bound,Int.natCast_nonneg,Int.le_refl,y1,y2,y3,e216,hne,simprocAttr];exact⟨_,1,rfl,by omega,by omega⟩
   | false =>
    simp only[push_cast,lp332_0,f0,f4,f5,f6,hx,g1,hd,hr,w4,simprocAttr];exact⟨_,by omega,_,rfl,by omega,by omega,rfl⟩
  ·by_cases hx0:x<0
   ·have dx:decide (x<0)=true:=by simp; omega
    have ha:0<=(0:Int)/\(0:Int)<s.size:=by omega
    have z:(s.extract 0 s.size).size=s.size-0:=by rw[ByteArray.size_extract]; omega
    obtain⟨r2,n2,e216,m1,m2,m3⟩:=c216 hE hD (lim:=X.length) (h:=X) (s.extract 0 s.size) (by omega);rw[z] at m2 m3;have m4:=m3 (by omega);have y1:(0<=(0:Int))=True:=by simp
    have y2:((0:Int)<=(s.size:Int))=True:=by simp
    have y3:=w64 (x:=(0:Int)+n2);cases hne:((0:Int)+n2==(s.size:Int)) with
    | true =>
     simp only[push_cast,lp332_0,f0,f4,f5,f6,hx,dx,bound,Int.natCast_nonneg,Int.le_refl,y1,y2,y3,e216,hne,simprocAttr];exact⟨r2,n2,rfl,by omega,by omega⟩
    | false =>
     simp only[push_cast,lp332_0,f0,f4,f5,f6,hx,dx,bound,Int.natCast_nonneg,Int.le_refl,y1,y2,y3,e216,hne,simprocAttr];exact⟨_,1,rfl,by omega,by omega⟩
   ·have dx:decide (x<0)=false:=by simp; omega
    have ha:0<=x/\x<s.size:=by omega
    have z:(s.extract (x).toNat s.size).size=s.size-(x).toNat:=by rw[ByteArray.size_extract]; omega
    obtain⟨r2,n2,e216,m1,m2,m3⟩:=c216 hE hD (lim:=X.length) (h:=X) (s.extract (x).toNat s.size) (by omega);rw[z] at m2 m3;have m4:=m3 (by omega);have y1:(0<=x)=True:=by simp; omega
    have y2:(x<=(s.size:Int))=True:=by simp; omega
    have y3:=w64 (x:=x+n2);cases hne:(x+n2==(s.size:Int)) with
    | true =>
     simp only[push_cast,lp332_0,f0,f4,f5,f6,hx,dx,bound,Int.natCast_nonneg,Int.le_refl,y1,y2,y3,e216,hne,simprocAttr];exact⟨r2,n2,rfl,by omega,by omega⟩
    | false =>
     simp only[push_cast,lp332_0,f0,f4,f5,f6,hx,dx,bound,Int.natCast_nonneg,Int.le_refl,y1,y2,y3,e216,hne,simprocAttr];exact⟨_,1,rfl,by omega,by omega⟩
theorem c324 (hD:DecOk E){p:Nat}{q:Int->Bool}(hp:∀lim h c,evI E lim (.func p) [.int .i32 c] h=some (.bool (q c),h))(s:ByteArray)(b:Bool)(hs:s.size<1000000):∃i:Int,evI E lim (.func 324) [.string s,.func (.func p) #[] #[],.bool b] h=some (.int .i64 i,h)/\-1<=i/\i<s.size:=by
 suffices hh:PostV (evI E lim (.func 324) [.string s,.func (.func p) #[] #[],.bool b] h) fun v h'=>h'=h/\∃i:Int,v=.int .i64 i/\-1<=i/\i<s.size by
  obtain⟨v,h',e,rfl,i,rfl,r⟩:=hh.out;exact⟨i,e,r⟩
 rw[hE.fn T324]; simp only[push_cast,ac324,simprocAttr];refine loop_post hE.mono (fun k f X=>∃x:Nat,f.rd 0=.string s/\f.rd 1=.func (.func p) #[] #[]/\f.rd 2=.bool b/\f.rd 7=.int .i64 x/\x<=s.size/\X=h/\x=k) ?_ s.size _ _ ⟨_,rfl,rfl,rfl,rfl,Nat.le_refl _,rfl,rfl⟩;rintro k f X ⟨x,f0,f1,f2,f7,hx,rfl,rfl⟩
 by_cases h0:(x:Int)>0
 ·have z:(s.extract 0 x).size=x:=by rw[ByteArray.size_extract]; omega
  obtain⟨r,n,e332,n1,n2⟩:=c332 hE hD (lim:=X.length) (h:=X) (s.extract 0 x) (by omega) (by omega);rw[z] at n2;have y1:(x:Int)<=s.size:=by omega
  have w:IntKind.i64.wrap ((x:Int)-n)=x-n:=wrap64 (by omega) (by omega);cases hc:q r==b with
  | true =>
   simp only[push_cast,lp324_0,f0,f1,f2,f7,h0,bound,Int.natCast_nonneg,Int.le_refl,y1,e332,w,hp,eqV,lksEq,lkEq,hc,simprocAttr];exact⟨_,rfl,by omega,by omega⟩
  | false =>
   simp only[push_cast,lp324_0,f0,f1,f2,f7,h0,bound,Int.natCast_nonneg,Int.le_refl,y1,e332,w,hp,eqV,lksEq,lkEq,hc,simprocAttr];exact⟨(x-n).toNat,by omega,_,by rw[Int.toNat_of_nonneg (by omega)],by omega,rfl⟩
 ·simp only[push_cast,lp324_0,f0,f7,h0,simprocAttr];exact⟨-1,rfl,by omega,by omega⟩
theorem c309 {p:Nat}{q:Int->Bool}(hp:∀lim h c,evI E lim (.func p) [.int .i32 c] h=some (.bool (q c),h))(s:ByteArray)(hs:s.size<1000000):∃t,evI E lim (.func 309) [.string s,.func (.func p) #[] #[]] h=some (.string t,h)/\t.size<=s.size:=by
 obtain⟨i,e,i1,i2⟩:=c325 hE hp (lim:=h.length) (h:=h) s false hs
 by_cases hi:i=-1
 ·have hi':(i==-1)=true:=by simp[hi]
  exact⟨⟨#[]⟩,by rw[hE.fn T309]; simp +contextual only[push_cast,ac309,e,hi',simprocAttr],Nat.zero_le _⟩
 ·have hi':(i==-1)=false:=by simp[hi]
  have y1:(0<=i)=True:=by simp; omega
  have y2:(i<=(s.size:Int))=True:=by simp; omega
  exact⟨s.extract i.toNat s.size,by rw[hE.fn T309]; simp +contextual only[push_cast,ac309,e,hi',bound,Option.map_none,y1,y2,simprocAttr],ex_size _ _ _⟩
theorem c308 (hD:DecOk E){p:Nat}{q:Int->Bool}(hp:∀lim h c,evI E lim (.func p) [.int .i32 c] h=some (.bool (q c),h))(s:ByteArray)(hs:s.size<1000000):∃t,evI E lim (.func 308) [.string s,.func (.func p) #[] #[]] h=some (.string t,h)/\t.size<=s.size:=by
 obtain⟨i,e,i1,i2⟩:=c324 hE hD hp (lim:=h.length) (h:=h) s false hs
 by_cases hi:0<=i
 ·have z:(s.extract i.toNat s.size).size=s.size-i.toNat:=by rw[ByteArray.size_extract]; omega
  obtain⟨r,n,e216,n1,n2,n3⟩:=c216 hE hD (lim:=h.length) (h:=h) (s.extract i.toNat s.size) (by omega);rw[z] at n2;have y2:(i<=(s.size:Int))=True:=by simp; omega
  have y3:=w64 (x:=i+n);have y4:(0<=i+n)=True:=by simp; omega
  have y5:(i+n<=(s.size:Int))=True:=by simp; omega
  exact⟨s.extract 0 (i+n).toNat,by rw[hE.fn T308]; simp +contextual only[push_cast,ac308,e,hi,bound,Option.map_none,y2,y3,y4,y5,e216,Int.le_refl,simprocAttr],ex_size _ _ _⟩
 ·have y3:IntKind.i64.wrap (i+1)=0:=by rw[show i+1=0 by omega]; decide
  exact⟨s.extract 0 0,by rw[hE.fn T308]; simp +contextual only[push_cast,ac308,e,hi,bound,Option.map_none,y3,Int.natCast_nonneg,Int.le_refl,simprocAttr],ex_size _ _ _⟩
theorem c273 (hD:DecOk E){p:Nat}{q:Int->Bool}(hp:∀lim h c,evI E lim (.func p) [.int .i32 c] h=some (.bool (q c),h))(s:ByteArray)(hs:s.size<1000000):∃t,evI E lim (.func 273) [.string s,.func (.func p) #[] #[]] h=some (.string t,h)/\t.size<=s.size:=by
 obtain⟨t,e,h1⟩:=c309 hE hp (lim:=h.length) (h:=h) s hs;obtain⟨u,e2,h2⟩:=c308 hE hD hp (lim:=h.length) (h:=h) t (by omega);exact⟨u,by rw[hE.fn T273]; simp +contextual only[push_cast,ac273,e,e2,simprocAttr],by omega⟩
end
section
open Tb
def prs (l:List (Int×Int)):List Value:=l.flatMap fun p=>[.int .i64 p.1,.int .i64 p.2]
theorem prs_len (l:List (Int×Int)):(prs l).length=l.length*2:=by
 induction l with
 | nil=>rfl
 | cons p l ih=>simp only[prs,List.flatMap_cons,List.length_append,List.length_cons,List.length_nil] at ih ⊢; omega
theorem prs_app (l:List (Int×Int))(a b:Int):prs l++[.int .i64 a,.int .i64 b]=prs (l++[(a,b)]):=by simp[prs]
theorem prs_get:∀(l:List (Int×Int)) (j:Nat),j<l.length->((prs l).drop (j*2)).take 2=[.int .i64 (l.getD j (0,0)).1,.int .i64 (l.getD j (0,0)).2]
 | p::l,0,_=>by simp[prs]
 | p::l,j+1,h=>by
  have e:(j+1)*2=j*2+2:=by omega
  have:=prs_get l j (by simpa using h);simp only[prs,List.flatMap_cons,List.cons_append,List.nil_append,e,List.drop_succ_cons,List.getD_cons_succ] at this ⊢;exact this
theorem xorI {n:Int}(h0:0<=n)(h1:n<1000000):IntKind.i64.wrap ((BitVec.ofInt 64 (if IntKind.i64.signed=true then -1 else IntKind.i64.max) ^^^ BitVec.ofInt 64 n).toNat:Int)=-n-1:=by
 show IntKind.i64.wrap ((BitVec.ofInt 64 (-1) ^^^ BitVec.ofInt 64 n).toNat:Int)=-n-1;have e1:BitVec.ofInt 64 (-1)=BitVec.allOnes 64:=by decide
 have e2:BitVec.ofInt 64 n=BitVec.ofNat 64 n.toNat:=by
  obtain⟨m,rfl⟩:=Int.eq_ofNat_of_zero_le h0;simp
 have e3:(BitVec.allOnes 64 ^^^ BitVec.ofNat 64 n.toNat).toNat=18446744073709551615-n.toNat:=by
  rw[BitVec.allOnes_xor,BitVec.toNat_not,BitVec.toNat_ofNat,Nat.mod_eq_of_lt (by omega)]
 rw[e1,e2,e3];simp only[IntKind.wrap,IntKind.bits,IntKind.signed];simp;omega
variable {E:Env}(hE:EnvT E){lim:Nat}{h:Hp}
include hE
def Spans (s:ByteArray)(l:List (Int×Int)):Prop:=∀p,p∈l->0<=p.1/\p.1<=p.2/\p.2<=s.size
theorem loop96 {s:ByteArray}{sp:List (Int×Int)}(hsp:Spans s sp)(hn:sp.length<2000000){b ba:Nat}{f:Fr}{X:Hp}{xs:List ByteArray}(hb:X[b]?=some (.cells true (prs sp)))(hba:X[ba]?=some (.cells true (strs xs)))(hne:b≠ba)(hlba:lim<=ba)(hxl:xs.length=sp.length)(hx:∀j,(xs.getD j ⟨#[]⟩).size<=s.size)
  (f0:f.rd 0=.string s)(f9:f.rd 9=.slice (some ⟨ba,0,none⟩) sp.length 1)(f47:f.rd 47=.slice (some ⟨b,0,none⟩) sp.length 2)(f48:f.rd 48=.int .i64 sp.length)(f49:f.rd 49=.int .i64 0){P:AX->Fr->Hp->Prop}
  (hP:∀f' X' xs',X'[ba]?=some (.cells true (strs xs'))->xs'.length=sp.length->(∀j,(xs'.getD j ⟨#[]⟩).size<=s.size)->(∀j,j<X.length->j≠ba->X'[j]?=X[j]?)->f'.rd 9=.slice (some ⟨ba,0,none⟩) sp.length 1->P (.exit 2) f' X'):Post (evK E lim (.loop lp96_0) f X) P:=by
 have hbl:=lt_of_get hb;have hbal:=lt_of_get hba;refine loop_post hE.mono (fun k g W=>∃(i:Nat) (xs:List ByteArray),i<=sp.length/\W[ba]?=some (.cells true (strs xs))/\xs.length=sp.length/\(∀j,(xs.getD j ⟨#[]⟩).size<=s.size)/\(∀j,j<X.length->j≠ba->W[j]?=X[j]?)/\X.length<=W.length/\g.rd 0=.string s/\g.rd 9=.slice (some ⟨ba,0,none⟩) sp.length 1/\g.rd 47=.slice (some ⟨b,0,none⟩) sp.length 2/\g.rd 48=.int .i64 sp.length/\g.rd 49=.int .i64 i/\sp.length-i=k) ?_ sp.length _ _ ⟨0,xs,Nat.zero_le _,hba,hxl,hx,fun _ _ _=>rfl,Nat.le_refl _,f0,f9,f47,f48,f49,by omega⟩;rintro k g W ⟨i,xs,hi,wb,hxl,hx,wo,wl,g0,g9,g47,g48,g49,hk⟩
 by_cases hlt:(i:Int)<sp.length
 ·have hi':i<sp.length:=by omega
  have hWb:=(wo b hbl hne).trans hb;have hp:=prs_get sp i hi';obtain⟨q1,q2,q3⟩:=hsp (sp.getD i (0,0)) (by rw[List.getD_eq_getElem?_getD,List.getElem?_eq_getElem hi']; exact List.getElem_mem hi');generalize sp.getD i (0,0)=pr at *;have x1:(i<sp.length)=True:=by simp[hi']
  have x2:(i*2+2<=sp.length*2)=True:=by simp; omega
  have x3:(i+1<=sp.length)=True:=by simp; omega
  have x4:IntKind.i64.wrap ((i:Int)+1)=i+1:=wrap64 (by omega) (by omega);have y1:(0<=pr.1)=True:=by simp[q1]
  have y2:(0<=pr.2)=True:=by simp; omega
  have y3:(pr.1<=pr.2)=True:=by simp[q2]
  have y4:(pr.2<=(s.size:Int))=True:=by simp[q3]
  have hl1:∀q:Prop,(lim<=W.length\/q)=True:=fun q=>by simp; omega
  have hl2:∀q:Prop,(lim<=ba\/q)=True:=fun q=>by simp; omega
  have s1:∀l x,(W++l).set ba x=W.set ba x++l:=fun l x=>set_old (by omega);simp only[push_cast,lp96_0,g0,g9,g47,g48,g49,hlt,hWb,prs_len,x1,x2,hp,hl1,hl2,y1,y2,y3,y4,bound,Int.natCast_nonneg,Nat.mul_one,get_old wb,s1,strs_set,strs_len,hxl,x3,x4,simprocAttr];refine⟨sp.length-(i+1),by omega,i+1,xs.set i (s.extract pr.1.toNat pr.2.toNat),by omega,?_,by rw[List.length_set]; exact hxl,fun j=>?_,fun j j1 j2=>?_,by first | omega | (simp; omega),rfl,rfl⟩
  ·rw[get_lt (by simp; omega),set_get (by omega)]
  ·rw[sgetD_set (by omega)];split
   ·exact ex_size _ _ _
   ·exact hx j
  ·rw[get_lt (by simp; omega),set_ne (by omega)];exact wo j j1 j2
 ·simp only[push_cast,lp96_0,g48,g49,hlt,simprocAttr];exact hP _ _ xs wb hxl hx wo (by simp[g9])
theorem c96 {p:Nat}{q:Int->Bool}(hp:∀lim h c,evI E lim (.func p) [.int .i32 c] h=some (.bool (q c),h))(s:ByteArray)(hs:s.size<1000000)(hlim:lim<=h.length) :
  PostV (evI E lim (.func 96) [.string s,.func (.func p) #[] #[]] h) fun v h'=>∃(b:Nat) (xs:List ByteArray),Agr h h'/\h.length<=b/\v=.slice (some ⟨b,0,none⟩) xs.length 1/\h'[b]?=some (.cells true (strs xs))/\xs.length<=s.size+1/\∀j,(xs.getD j ⟨#[]⟩).size<=s.size:=by
 have hlm:(lim<=h.length)=True:=by simp[hlim]
 rw[hE.fn T96]; simp only[push_cast,ac96,Int.le_refl,repl,List.replicate_zero,List.flatten_nil,simprocAttr]
 refine loop_post hE.mono (fun k f X=>∃(pos b:Nat) (sp:List (Int×Int)) (st:Int),f.rd 0=.string s/\f.rd 1=.func (.func p) #[] #[]/\f.rd 14=.pointer (some ⟨h.length+1,0,none⟩)/\f.rd 5=.slice (some ⟨b,0,none⟩) sp.length 2/\f.rd 6=.int .i64 st /\
  X[h.length+1]?=some (.iter s pos)/\X[b]?=some (.cells true (prs sp))/\b≠h.length+1/\h.length<=b/\Agr h X/\Spans s sp/\sp.length<=pos/\pos<=s.size/\-1000000<=st/\st<=pos/\s.size-pos=k) ?_ s.size _ _ ⟨0,h.length,[],-1,rfl,rfl,rfl,rfl,rfl,get_app,get_app0,by omega,Nat.le_refl _,Agr.app _ _,(fun _ h=>nomatch h),Nat.le_refl _,Nat.zero_le _,by omega,by omega,by omega⟩
 rintro k f X ⟨pos,b,sp,st,f0,f1,f14,f5,f6,xi,xb,hne,hb,A,hsp,hl,hpos,s1,s2,hk⟩
 by_cases hlt:pos<s.size
 ·have hw:=dec_pos s pos;have hw2:=dec_le s pos hlt;have hi:=lt_of_get xi;have hbl:=lt_of_get xb;have k1:∀y,(X.set (h.length+1) y)[b]?=some (.cells true (prs sp)):=fun y=>by rw[set_ne (by omega)]; exact xb
  have k2:∀y l d,(X.set (h.length+1) y++l).set b d=(X.set (h.length+1) y).set b d++l:=fun y l d=>set_old (by simpa using hbl);have k3:(lim<=b)=True:=by simp; omega
  have k4:(((sp.length:Int)+1)*16<=140737488355328)=True:=by simp; omega
  have k5:((sp.length+1)*16<=140737488355328)=True:=by simp; omega
  have k6:∀y c,(X.set (h.length+1) y++[c])[X.length]?=some c:=fun y c=>get_appC0 (by simp);have AS:∀y d l,Agr h ((X.set (h.length+1) y).set b d++l):=fun y d l=>((A.set (by omega) _).set hb _).trans (Agr.app _ _);cases hq:q (Utf8.decode s pos).1 with
  | true =>
   by_cases hst:st>=0
   ·simp only[push_cast,lp96_1,f0,f1,f14,f5,f6,xi,hlt,hp,hq,hst,get_old (k1 _),k2,k3,k4,k5,prs_len,prs_app,srcOf,k6,simprocAttr];refine⟨_,?_,pos+(Utf8.decode s pos).2,X.length+1,sp++[(st,(pos:Int))],-st-1,by simp,congrArg _ (xorI hst (by omega)),?_,?_,by omega,by omega,AS _ _ _,?_,by simp; omega,by omega,by omega,by omega,rfl⟩
    ·omega
    ·rw[get_lt (by simp; omega),set_ne (by omega),set_get hi]
    ·exact get_appC (k:=1) (by simp)
    ·intro p hp';rcases List.mem_append.1 hp' with hp' | hp'
     ·exact hsp p hp'
     ·rw[List.mem_singleton.1 hp'];exact⟨hst,s2,by show(pos:Int)<=s.size; omega⟩
   ·simp only[push_cast,lp96_1,f0,f1,f14,f5,f6,xi,hlt,hp,hq,hst,simprocAttr];exact⟨_,by omega,pos+(Utf8.decode s pos).2,b,sp,st,rfl,rfl,set_get hi,k1 _,hne,hb,A.set (by omega) _,hsp,by omega,by omega,by omega,by omega,rfl⟩
  | false =>
   by_cases hst:st<0
   ·simp only[push_cast,lp96_1,f0,f1,f14,f5,f6,xi,hlt,hp,hq,hst,simprocAttr];exact⟨_,by omega,pos+(Utf8.decode s pos).2,b,sp,pos,rfl,rfl,set_get hi,k1 _,hne,hb,A.set (by omega) _,hsp,by omega,by omega,by omega,by omega,rfl⟩
   ·simp only[push_cast,lp96_1,f0,f1,f14,f5,f6,xi,hlt,hp,hq,hst,simprocAttr];exact⟨_,by omega,pos+(Utf8.decode s pos).2,b,sp,st,rfl,rfl,set_get hi,k1 _,hne,hb,A.set (by omega) _,hsp,by omega,by omega,by omega,by omega,rfl⟩
 ·have hi:=lt_of_get xi;have hbl:=lt_of_get xb
  by_cases hst:st>=0
  ·have k2:∀l d,(X++l).set b d=X.set b d++l:=fun l d=>set_old hbl;have k3:(lim<=b)=True:=by simp; omega
   have k5:((sp.length+1)*16<=140737488355328)=True:=by simp; omega
   have k7:(((sp.length:Int)+1)*16<=140737488355328)=True:=by simp; omega
   have k8:((sp.length:Int)+1).toNat=sp.length+1:=by omega
   have k9:((sp.length:Int)+1<=9223372036854775807)=True:=by simp; omega
   have k10:(0<=(sp.length:Int)+1)=True:=by simp; omega
   simp only[push_cast,lp96_1,f0,f1,f14,f5,f6,xi,hlt,hst,get_old xb,k2,k3,k5,k7,k8,k9,k10,prs_len,prs_app,srcOf,Int.le_refl,strs_repl,Int.natCast_add,Int.cast_ofNat_Int,simprocAttr]
   have hsp2:Spans s (sp++[(st,(s.size:Int))]):=fun p hp'=>by
    rcases List.mem_append.1 hp' with hp' | hp'
    ·exact hsp p hp'
    ·rw[List.mem_singleton.1 hp'];exact⟨hst,by show st<=(s.size:Int); omega,Int.le_refl _⟩
   refine loop96 hE hsp2 (by simp; omega) (b:=X.length+1) (ba:=X.length+2) (xs:=List.replicate (sp.length+1) ⟨#[]⟩) (get_appC (k:=1) (by simp)) (get_appC (k:=2) (by simp)) (by omega) (by omega) (by simp) (fun j=>?_) (by simp[f0]) (by simp only[push_cast,List.length_append,simprocAttr]) (by simp only[push_cast,List.length_append,simprocAttr]) (by simp only[push_cast,List.length_append,Int.natCast_add,Int.cast_ofNat_Int,simprocAttr]) (by simp) ?_
   ·rw[List.getD_eq_getElem?_getD,List.getElem?_replicate];split<;>exact Nat.zero_le _
   ·intro f' X' xs' e1 e2 e3 e4 e5;simp only[List.length_append,List.length_cons,List.length_nil] at e2 e5;simp only[push_cast,e5,simprocAttr];refine⟨X.length+2,xs',fun i k' e=>?_,by omega,by rw[e2],e1,by omega,e3⟩;have:=lt_of_get e;rw[e4 i (by simp; omega) (by omega),get_lt (by simp; omega),set_ne (by omega)];exact A i k' e
  ·have k7:((sp.length:Int)*16<=140737488355328)=True:=by simp; omega
   have k9:((sp.length:Int)<=9223372036854775807)=True:=by simp; omega
   simp only[push_cast,lp96_1,f0,f1,f14,f5,f6,xi,hlt,hst,k7,k9,Int.natCast_nonneg,Int.le_refl,strs_repl,simprocAttr];refine loop96 hE hsp (by omega) (b:=b) (ba:=X.length) (xs:=List.replicate sp.length ⟨#[]⟩) (get_old xb) get_app0 (by omega) (by omega) (by simp) (fun j=>?_) (by simp[f0]) (by simp) (by simp) (by simp) (by simp) ?_
   ·rw[List.getD_eq_getElem?_getD,List.getElem?_replicate];split<;>exact Nat.zero_le _
   ·intro f' X' xs' e1 e2 e3 e4 e5;simp only[push_cast,e5,simprocAttr];refine⟨X.length,xs',fun i k' e=>?_,by omega,by rw[e2],e1,by omega,e3⟩;have:=lt_of_get e;rw[e4 i (by simp; omega) (by omega),get_lt (by omega)];exact A i k' e
theorem c49 (s:ByteArray)(hs:s.size<1000000)(hlim:lim<=h.length) :
  PostV (evI E lim (.func 49) [.string s] h) fun v h'=>∃(b:Nat) (xs:List ByteArray),Agr h h'/\h.length<=b/\v=.slice (some ⟨b,0,none⟩) xs.length 1/\h'[b]?=some (.cells true (strs xs))/\xs.length<=s.size+1/\∀j,(xs.getD j ⟨#[]⟩).size<=s.size:=by
 obtain⟨v,h',e,b,xs,A,hb,rfl,r⟩:=(c96 hE (fun lim h c=>c97 hE (lim:=lim) (h:=h) c) (lim:=lim) s hs hlim).out;rw[hE.fn T49]; simp only[push_cast,ac49,e,simprocAttr];exact⟨b,xs,A,hb,rfl,r⟩
end
section
open Tb
def ParseOk (E:Env):Prop:=∀(lim:Nat) (s:ByteArray) (h:Hp),s.size<=6->PostV (evI E lim (.func 274) [.string s,.int .i64 10,.int .i64 64] h) fun v h'=>∃(n:Int) (e:Value) (l:Hp),v=.tuple #[.int .i64 n,e]/\h'=h++l/\-999999<=n/\n<=999999
def RNG (j r:Int):Prop:=(j=0/\-999999<=r/\r<=999999)\/(j=1/\-9999990<=r/\r<=9999990)\/(j=2/\-99999900<=r/\r<=99999900)\/(j=3/\-999999000<=r/\r<=999999000)\/(j=4/\-9999990000<=r/\r<=9999990000)\/(j=5/\-99999900000<=r/\r<=99999900000)\/(j=6/\-999999000000<=r/\r<=999999000000)
theorem RNG.b {j r:Int}(h:RNG j r):-1000000000000<=r/\r<=1000000000000:=by
 unfold RNG at h;omega
theorem RNG.step {j r:Int}(h:RNG j r)(h2:j<6):RNG (j+1) (r*10):=by
 unfold RNG at h ⊢;rcases h with h | h | h | h | h | h | h<;>omega
theorem RNG.zero {r:Int}(h1:-999999<=r)(h2:r<=999999):RNG 0 r:=.inl ⟨rfl,h1,h2⟩
def bB (b:Bool):Blk:=.cells true [.bool b]
variable {E:Env}(hE:EnvT E){lim:Nat}{h:Hp}
include hE
theorem c230 (hD:DecOk E)(hP:ParseOk E){br:Nat}{bad:Bool}(hb:h[br]?=some (bB bad))(s:ByteArray)(hs:s.size<1000000) :
  PostV (evI E lim (.func 230) [.pointer (some ⟨br,0,none⟩),.string s] h) fun v h'=>∃(n:Int) (b:Bool),v=.int .i64 n/\-999999<=n/\n<=999999/\h'=h.set br (bB b):=by
 have hbr:=lt_of_get hb;have e0:h.set br (bB bad)=h:=set_same hb;unfold bB at hb e0 ⊢
 by_cases h1:(s.size:Int)<1
 ·rw[hE.fn T230]; simp only[push_cast,ac230,h1,hb,simprocAttr];exact⟨0,true,rfl,by omega,by omega,by rw[take_set]⟩
 ·by_cases h6:(s.size:Int)>6
  ·rw[hE.fn T230]; simp only[push_cast,ac230,h1,h6,hb,simprocAttr];exact⟨0,true,rfl,by omega,by omega,by rw[take_set]⟩
  ·obtain⟨t,e273,ht⟩:=c273 hE hD (p:=272) (fun lim h c=>c272 hE (lim:=lim) (h:=h) c) (lim:=h.length) (h:=h) s hs;cases hz:t.toList==(⟨#[]⟩:ByteArray).toList with
   | false =>
    rw[hE.fn T230]; simp only[push_cast,ac230,h1,h6,e273,hz,hb,simprocAttr];exact⟨0,true,rfl,by omega,by omega,by rw[take_set]⟩
   | true =>
    obtain⟨v,h',e274,n,e,l,rfl,rfl,n1,n2⟩:=(hP h.length s h (by omega)).out;rw[hE.fn T230]; simp only[push_cast,ac230,h1,h6,e273,hz,e274,simprocAttr];exact⟨n,bad,rfl,n1,n2,e0.symm⟩
theorem c165 (hI:IdxOk E)(hD:DecOk E)(hP:ParseOk E){br:Nat}{bad:Bool}(hb:h[br]?=some (bB bad)){l m u d:Int}{q:Value}(hu:1<=u)(hu2:u<=1000000)(s:ByteArray)(hs:s.size<1000000) :
  PostV (evI E lim (.func 165) [.pointer (some ⟨br,0,none⟩),.agg #[.int .i64 l,.int .i64 m,.int .i64 u,.int .i64 d,q],.string s] h) fun v h'=>∃(n:Int) (b:Bool),v=.int .i64 n/\-2000000000000<=n/\n<=2000000000000/\h'=h.set br (bB b):=by
 have hbr:=lt_of_get hb;obtain⟨x,y,dot,e99,x1,x2⟩:=c99 hE hI (lim:=h.length) (h:=h++[.cells true [.int .i64 l,.int .i64 m,.int .i64 u,.int .i64 d,q]]) s ⟨#[46]⟩ hs (by show 1<1000000; omega);obtain⟨v,h',e230,n,b1,rfl,n1,n2,rfl⟩:=(c230 hE hD hP (lim:=h.length) (h:=h++[.cells true [.int .i64 l,.int .i64 m,.int .i64 u,.int .i64 d,q]]) (br:=br) (bad:=bad) (get_old hb) x (by omega)).out;rw[set_old hbr] at e230
 have k1:-999999*1000000<=n*u/\n*u<=999999*1000000:=by
  constructor
  ·have h1:-999999*u<=n*u:=Int.mul_le_mul_of_nonneg_right n1 (by omega);have h2:-999999*u>=-999999*1000000:=by omega
   omega
  ·have h1:n*u<=999999*u:=Int.mul_le_mul_of_nonneg_right n2 (by omega);omega
 have w1:=w64 (x:=n*u);have hb1:∀l b,(h.set br (bB b)++l)[br]?=some (bB b):=fun l b=>get_old (set_get hbr);have hb2:∀l b c,(h.set br (bB b)++l).set br c=h.set br c++l:=fun l b c=>by rw[set_old (by simpa using hbr),List.set_set]
 have hlen:∀b,(h.set br (bB b)).length=h.length:=fun b=>List.length_set;have htk:∀b l,(h.set br (bB b)++l).take h.length=h.set br (bB b):=fun b l=>take_appC (by simp);have gq:∀b,(h.set br (bB b)++[.cells true [.int .i64 l,.int .i64 m,.int .i64 u,.int .i64 d,q]])[h.length]?=some (.cells true [.int .i64 l,.int .i64 m,.int .i64 u,.int .i64 d,q]):=fun b=>get_appC0 (by simp);cases dot with
 | false =>
  rw[hE.fn T165]; simp only[push_cast,ac165,e99,e230,gq,w1,simprocAttr];exact⟨n*u,b1,rfl,by omega,by omega,htk _ _⟩
 | true =>
  have gb:∀l b,(h.set br (bB b)++l)[br]?=some (.cells true [.bool b]):=hb1;have hb2':∀l b c,(h.set br (bB b)++l).set br (.cells true [.bool c])=h.set br (bB c)++l:=fun l b c=>hb2 l b (bB c);have w6:=w64 (x:=6-min 6 (y.size:Int));cases b1 with
  | true =>
   obtain⟨v,h',e230',n',b3,rfl,m1,m2,rfl⟩:=(c230 hE hD hP (lim:=h.length) (h:=h.set br (bB true)++[.cells true [.int .i64 l,.int .i64 m,.int .i64 u,.int .i64 d,q]]) (br:=br) (bad:=true) (hb1 _ _) y (by omega)).out;rw[hb2] at e230';rw[hE.fn T165]; simp only[push_cast,ac165,e99,e230,e230',gq,gb,hb2',w1,w6,simprocAttr];refine loop_post hE.mono (fun k f X=>∃(j r:Int),f.rd 10=.int .i64 (n*u)/\f.rd 11=.int .i64 r/\f.rd 43=.int .i64 (6-min 6 (y.size:Int))/\f.rd 44=.int .i64 j/\X=h.set br (bB b3)++[.cells true [.int .i64 l,.int .i64 m,.int .i64 u,.int .i64 d,q]]/\0<=j/\j<=6-min 6 (y.size:Int)/\RNG j r/\(6-j).toNat=k) ?_ 6 _ _ ⟨0,n',rfl,rfl,rfl,rfl,rfl,by omega,by omega,RNG.zero m1 m2,rfl⟩;rintro k f X ⟨j,r,f10,f11,f43,f44,rfl,j1,j2,jr,hk⟩;have jb:=jr.b
   by_cases hj:j<6-min 6 (y.size:Int)
   ·have w7:=w64 (x:=r*10);have w8:=w64 (x:=j+1);simp only[push_cast,lp165_0,f10,f11,f43,f44,hj,w7,w8,simprocAttr];exact⟨_,by omega,j+1,r*10,rfl,rfl,by omega,by omega,jr.step (by omega),rfl⟩
   ·have w9:=w64 (x:=n*u+r);simp only[push_cast,lp165_0,f10,f11,f43,f44,hj,w9,simprocAttr];exact⟨n*u+r,b3,rfl,by omega,by omega,htk _ _⟩
  | false =>
   cases hu1:(u==1) with
   | true =>
    obtain⟨v,h',e230',n',b3,rfl,m1,m2,rfl⟩:=(c230 hE hD hP (lim:=h.length) (h:=h.set br (bB true)++[.cells true [.int .i64 l,.int .i64 m,.int .i64 u,.int .i64 d,q]]) (br:=br) (bad:=true) (hb1 _ _) y (by omega)).out;rw[hb2] at e230';rw[hE.fn T165]; simp only[push_cast,ac165,e99,e230,e230',gq,gb,hb2',w1,w6,hu1,simprocAttr];refine loop_post hE.mono (fun k f X=>∃(j r:Int),f.rd 10=.int .i64 (n*u)/\f.rd 11=.int .i64 r/\f.rd 43=.int .i64 (6-min 6 (y.size:Int))/\f.rd 44=.int .i64 j/\X=h.set br (bB b3)++[.cells true [.int .i64 l,.int .i64 m,.int .i64 u,.int .i64 d,q]]/\0<=j/\j<=6-min 6 (y.size:Int)/\RNG j r/\(6-j).toNat=k) ?_ 6 _ _ ⟨0,n',rfl,rfl,rfl,rfl,rfl,by omega,by omega,RNG.zero m1 m2,rfl⟩;rintro k f X ⟨j,r,f10,f11,f43,f44,rfl,j1,j2,jr,hk⟩;have jb:=jr.b
    by_cases hj:j<6-min 6 (y.size:Int)
    ·have w7:=w64 (x:=r*10);have w8:=w64 (x:=j+1);simp only[push_cast,lp165_0,f10,f11,f43,f44,hj,w7,w8,simprocAttr];exact⟨_,by omega,j+1,r*10,rfl,rfl,by omega,by omega,jr.step (by omega),rfl⟩
    ·have w9:=w64 (x:=n*u+r);simp only[push_cast,lp165_0,f10,f11,f43,f44,hj,w9,simprocAttr];exact⟨n*u+r,b3,rfl,by omega,by omega,htk _ _⟩
   | false =>
    obtain⟨v,h',e230',n',b3,rfl,m1,m2,rfl⟩:=(c230 hE hD hP (lim:=h.length) (h:=h.set br (bB false)++[.cells true [.int .i64 l,.int .i64 m,.int .i64 u,.int .i64 d,q]]) (br:=br) (bad:=false) (hb1 _ _) y (by omega)).out;rw[hb2] at e230';rw[hE.fn T165]; simp only[push_cast,ac165,e99,e230,e230',gq,gb,hb2',w1,w6,hu1,simprocAttr];refine loop_post hE.mono (fun k f X=>∃(j r:Int),f.rd 10=.int .i64 (n*u)/\f.rd 11=.int .i64 r/\f.rd 43=.int .i64 (6-min 6 (y.size:Int))/\f.rd 44=.int .i64 j/\X=h.set br (bB b3)++[.cells true [.int .i64 l,.int .i64 m,.int .i64 u,.int .i64 d,q]]/\0<=j/\j<=6-min 6 (y.size:Int)/\RNG j r/\(6-j).toNat=k) ?_ 6 _ _ ⟨0,n',rfl,rfl,rfl,rfl,rfl,by omega,by omega,RNG.zero m1 m2,rfl⟩;rintro k f X ⟨j,r,f10,f11,f43,f44,rfl,j1,j2,jr,hk⟩;have jb:=jr.b
    by_cases hj:j<6-min 6 (y.size:Int)
    ·have w7:=w64 (x:=r*10);have w8:=w64 (x:=j+1);simp only[push_cast,lp165_0,f10,f11,f43,f44,hj,w7,w8,simprocAttr];exact⟨_,by omega,j+1,r*10,rfl,rfl,by omega,by omega,jr.step (by omega),rfl⟩
    ·have w9:=w64 (x:=n*u+r);simp only[push_cast,lp165_0,f10,f11,f43,f44,hj,w9,simprocAttr];exact⟨n*u+r,b3,rfl,by omega,by omega,htk _ _⟩
end
section
open Tb
variable {E:Env}(hE:EnvT E){lim:Nat}{h:Hp}
include hE
theorem c104 (hI:IdxOk E)(hD:DecOk E)(hP:ParseOk E){br:Nat}{bad:Bool}(hb:h[br]?=some (bB bad)){l m u d:Int}{q:Option Addr}(hu:1<=u)(hu2:u<=1000000)(s:ByteArray)(hs:s.size<1000000) :
  PostV (evI E lim (.func 104) [.pointer (some ⟨br,0,none⟩),.agg #[.int .i64 l,.int .i64 m,.int .i64 u,.int .i64 d,.pointer q],.string s] h) fun v h'=>∃(x y z:Int) (b:Bool),v=.agg #[.int .i64 x,.int .i64 y,.int .i64 z]/\z<=10000000000000/\-10000000000000<=z/\h'=h.set br (bB b):=by
 obtain⟨g,rfl⟩:∃g:Hp,h=g.set br (bB bad):=⟨h,(set_same hb).symm⟩;have hbr:br<g.length:=by simpa using lt_of_get hb
 have hl0:∀b,(g.set br (bB b)).length=g.length:=fun b=>List.length_set;simp only[List.set_set];obtain⟨hd,st,ag,e99,x1,x2⟩:=c99 hE hI (lim:=g.length) (h:=g.set br (bB bad)++[.cells true [.int .i64 l,.int .i64 m,.int .i64 u,.int .i64 d,.pointer q],.cells true [.int .i64 0,.int .i64 0,.int .i64 0]]) s ⟨#[47]⟩ hs (by show 1<1000000; omega);obtain⟨fr,to,rg,e99b,x3,x4⟩:=c99 hE hI (lim:=g.length) (h:=g.set br (bB bad)++[.cells true [.int .i64 l,.int .i64 m,.int .i64 u,.int .i64 d,.pointer q],.cells true [.int .i64 0,.int .i64 0,.int .i64 0]]) hd ⟨#[46,46]⟩ (by omega) (by show 2<1000000; omega)
 have V:∀(b:Bool) (L:Hp) (s:ByteArray),s.size<1000000->∃(n:Int) (b':Bool),evI E g.length (.func 165) [.pointer (some ⟨br,0,none⟩),.agg #[.int .i64 l,.int .i64 m,.int .i64 u,.int .i64 d,.pointer q],.string s] (g.set br (bB b)++L)=some (.int .i64 n,g.set br (bB b')++L)/\-2000000000000<=n/\n<=2000000000000:=fun b L s hs=>by
  obtain⟨v,h',e,n,b',rfl,n1,n2,rfl⟩:=(c165 hE hI hD hP (lim:=g.length) (h:=g.set br (bB b)++L) (br:=br) (bad:=b) (get_old (set_get hbr)) (l:=l) (m:=m) (u:=u) (d:=d) (q:=.pointer q) hu hu2 s hs).out;rw[set_old (by simpa using hbr),List.set_set] at e;exact⟨n,b',e,n1,n2⟩
 have hl1:∀b L,(g.set br (bB b)++L).length=g.length+L.length:=fun b L=>by simp
 have g6:∀b B L,(g.set br (bB b)++B::L)[g.length]?=some B:=fun b B L=>get_appC0 (by simp);have g13:∀b k L,(g.set br (bB b)++L)[g.length+k]?=L[k]?:=fun b k L=>get_appC (by simp);have s6:∀b x L,(g.set br (bB b)++L).set g.length x=g.set br (bB b)++L.set 0 x:=fun b x L=>set_appC0 (by simp);have s13:∀b k x L,(g.set br (bB b)++L).set (g.length+k) x=g.set br (bB b)++L.set k x:=fun b k x L=>set_appC (by simp);have gb:∀b L,(g.set br (bB b)++L)[br]?=some (.cells true [.bool b]):=fun b L=>get_old (set_get hbr);have sb:∀b c L,(g.set br (bB b)++L).set br (.cells true [.bool c])=g.set br (bB c)++L:=fun b c L=>by rw[set_old (by simpa using hbr),List.set_set]; rfl
 have htk:∀b L,(g.set br (bB b)++L).take g.length=g.set br (bB b):=fun b L=>take_appC (by simp);cases hst:hd.toList==(⟨#[42]⟩:ByteArray).toList with
 | true =>
  cases ag with
  | true =>
   obtain⟨n1,b1,e1,r11,r12⟩:=V bad [.cells true [.int .i64 l,.int .i64 m,.int .i64 u,.int .i64 d,.pointer q],.cells true [.int .i64 0,.int .i64 0,.int .i64 0],.cells true [.int .i64 l,.int .i64 m,.int .i64 u]] st (by omega);cases b1 with
   | true =>
    rw[hE.fn T104]; simp only[push_cast,ac104,sureL,e99,e99b,g6,g13,s6,s13,gb,sb,hl1,hl0,le_app,hst,c105 hE,e1,simprocAttr];exact⟨_,_,n1,_,rfl,by omega,by omega,htk _ _⟩
   | false =>
    rw[hE.fn T104]; simp only[push_cast,ac104,sureL,e99,e99b,g6,g13,s6,s13,gb,sb,hl1,hl0,le_app,hst,c105 hE,e1,simprocAttr];exact⟨_,_,n1,_,rfl,by omega,by omega,htk _ _⟩
  | false =>
   cases rg with
   | true =>
    obtain⟨n1,b1,e1,r11,r12⟩:=V bad [.cells true [.int .i64 l,.int .i64 m,.int .i64 u,.int .i64 d,.pointer q],.cells true [.int .i64 0,.int .i64 0,.int .i64 0],.cells true [.int .i64 0,.int .i64 0,.int .i64 0]] fr (by omega);obtain⟨n2,b2,e2,r21,r22⟩:=V b1 [.cells true [.int .i64 l,.int .i64 m,.int .i64 u,.int .i64 d,.pointer q],.cells true [.int .i64 0,.int .i64 0,.int .i64 0],.cells true [.int .i64 0,.int .i64 0,.int .i64 0]] to (by omega);rw[hE.fn T104]; simp only[push_cast,ac104,sureL,e99,e99b,g6,g13,s6,s13,gb,sb,hl1,hl0,le_app,hst,e1,e2,simprocAttr];exact⟨_,_,u,_,rfl,by omega,by omega,htk _ _⟩
   | false =>
    obtain⟨n1,b1,e1,r11,r12⟩:=V bad [.cells true [.int .i64 l,.int .i64 m,.int .i64 u,.int .i64 d,.pointer q],.cells true [.int .i64 0,.int .i64 0,.int .i64 0],.cells true [.int .i64 0,.int .i64 0,.int .i64 0]] hd (by omega);rw[hE.fn T104]; simp only[push_cast,ac104,sureL,e99,e99b,g6,g13,s6,s13,gb,sb,hl1,hl0,le_app,hst,e1,simprocAttr];exact⟨_,_,0,_,rfl,by omega,by omega,htk _ _⟩
 | false =>
  cases ag with
  | true =>
   cases rg with
   | true =>
    obtain⟨n1,b1,e1,r11,r12⟩:=V bad [.cells true [.int .i64 l,.int .i64 m,.int .i64 u,.int .i64 d,.pointer q],.cells true [.int .i64 0,.int .i64 0,.int .i64 0],.cells true [.int .i64 0,.int .i64 0,.int .i64 0]] fr (by omega);obtain⟨n2,b2,e2,r21,r22⟩:=V b1 [.cells true [.int .i64 l,.int .i64 m,.int .i64 u,.int .i64 d,.pointer q],.cells true [.int .i64 0,.int .i64 0,.int .i64 0],.cells true [.int .i64 0,.int .i64 0,.int .i64 0]] to (by omega);obtain⟨n3,b3,e3,r31,r32⟩:=V b2 [.cells true [.int .i64 l,.int .i64 m,.int .i64 u,.int .i64 d,.pointer q],.cells true [.int .i64 0,.int .i64 0,.int .i64 0],.cells true [.int .i64 n1,.int .i64 n2,.int .i64 u]] st (by omega);cases b3 with
    | true =>
     rw[hE.fn T104]; simp only[push_cast,ac104,sureL,e99,e99b,g6,g13,s6,s13,gb,sb,hl1,hl0,le_app,hst,e1,e2,e3,simprocAttr];exact⟨_,_,n3,_,rfl,by omega,by omega,htk _ _⟩
    | false =>
     rw[hE.fn T104]; simp only[push_cast,ac104,sureL,e99,e99b,g6,g13,s6,s13,gb,sb,hl1,hl0,le_app,hst,e1,e2,e3,simprocAttr];exact⟨_,_,n3,_,rfl,by omega,by omega,htk _ _⟩
   | false =>
    obtain⟨n1,b1,e1,r11,r12⟩:=V bad [.cells true [.int .i64 l,.int .i64 m,.int .i64 u,.int .i64 d,.pointer q],.cells true [.int .i64 0,.int .i64 0,.int .i64 0],.cells true [.int .i64 0,.int .i64 0,.int .i64 0]] hd (by omega);obtain⟨n2,b2,e2,r21,r22⟩:=V b1 [.cells true [.int .i64 l,.int .i64 m,.int .i64 u,.int .i64 d,.pointer q],.cells true [.int .i64 0,.int .i64 0,.int .i64 0],.cells true [.int .i64 n1,.int .i64 m,.int .i64 0]] st (by omega);cases b2 with
    | true =>
     rw[hE.fn T104]; simp only[push_cast,ac104,sureL,e99,e99b,g6,g13,s6,s13,gb,sb,hl1,hl0,le_app,hst,e1,e2,simprocAttr];exact⟨_,_,n2,_,rfl,by omega,by omega,htk _ _⟩
    | false =>
     rw[hE.fn T104]; simp only[push_cast,ac104,sureL,e99,e99b,g6,g13,s6,s13,gb,sb,hl1,hl0,le_app,hst,e1,e2,simprocAttr];exact⟨_,_,n2,_,rfl,by omega,by omega,htk _ _⟩
  | false =>
   cases rg with
   | true =>
    obtain⟨n1,b1,e1,r11,r12⟩:=V bad [.cells true [.int .i64 l,.int .i64 m,.int .i64 u,.int .i64 d,.pointer q],.cells true [.int .i64 0,.int .i64 0,.int .i64 0],.cells true [.int .i64 0,.int .i64 0,.int .i64 0]] fr (by omega);obtain⟨n2,b2,e2,r21,r22⟩:=V b1 [.cells true [.int .i64 l,.int .i64 m,.int .i64 u,.int .i64 d,.pointer q],.cells true [.int .i64 0,.int .i64 0,.int .i64 0],.cells true [.int .i64 0,.int .i64 0,.int .i64 0]] to (by omega);rw[hE.fn T104]; simp only[push_cast,ac104,sureL,e99,e99b,g6,g13,s6,s13,gb,sb,hl1,hl0,le_app,hst,e1,e2,simprocAttr];exact⟨_,_,u,_,rfl,by omega,by omega,htk _ _⟩
   | false =>
    obtain⟨n1,b1,e1,r11,r12⟩:=V bad [.cells true [.int .i64 l,.int .i64 m,.int .i64 u,.int .i64 d,.pointer q],.cells true [.int .i64 0,.int .i64 0,.int .i64 0],.cells true [.int .i64 0,.int .i64 0,.int .i64 0]] hd (by omega);rw[hE.fn T104]; simp only[push_cast,ac104,sureL,e99,e99b,g6,g13,s6,s13,gb,sb,hl1,hl0,le_app,hst,e1,simprocAttr];exact⟨_,_,0,_,rfl,by omega,by omega,htk _ _⟩
end
section
open Tb
def prt (l:List (Int×Int×Int)):List Value:=l.flatMap fun p=>[.int .i64 p.1,.int .i64 p.2.1,.int .i64 p.2.2]
theorem prt_len (l:List (Int×Int×Int)):(prt l).length=l.length*3:=by
 induction l with
 | nil=>rfl
 | cons p l ih=>simp only[prt,List.flatMap_cons,List.length_append,List.length_cons,List.length_nil] at ih ⊢; omega
theorem prt_app (l:List (Int×Int×Int))(a b c:Int):prt l++[.int .i64 a,.int .i64 b,.int .i64 c]=prt (l++[(a,b,c)]):=by simp[prt]
theorem prt_get:∀(l:List (Int×Int×Int)) (j:Nat),j<l.length->((prt l).drop (j*3)).take 3=[.int .i64 (l.getD j (0,0,0)).1,.int .i64 (l.getD j (0,0,0)).2.1,.int .i64 (l.getD j (0,0,0)).2.2]
 | p::l,0,_=>by simp[prt]
 | p::l,j+1,h=>by
  have e:(j+1)*3=j*3+3:=by omega
  have:=prt_get l j (by simpa using h);simp only[prt,List.flatMap_cons,List.cons_append,List.nil_append,e,List.drop_succ_cons,List.getD_cons_succ] at this ⊢;exact this
def Stp (ps:List (Int×Int×Int)):Prop:=∀p,p∈ps->p.2.2<=10000000000000
def PRow (X:Hp)(n:Nat)(v:Value)(ps:List (Int×Int×Int)):Prop:=(v=.slice none 0 0/\ps=[])\/∃b,v=.slice (some ⟨b,0,none⟩) ps.length 3/\n<=b/\X[b]?=some (.cells true (prt ps))
def PR (X:Hp)(br bs:Nat)(v:Value)(ps:List (Int×Int×Int)):Prop:=(v=.slice none 0 0/\ps=[])\/∃c,v=.slice (some ⟨c,0,none⟩) ps.length 3/\c≠br/\c≠bs/\X[c]?=some (.cells true (prt ps))
theorem PR.of {X X':Hp}{br bs:Nat}{v:Value}{ps:List (Int×Int×Int)}(H:PR X br bs v ps)(ho:∀j,j<X.length->j≠bs->j≠br->X'[j]?=X[j]?):PR X' br bs v ps:=by
 rcases H with H | ⟨c,rfl,c1,c2,c3⟩
 ·exact .inl H
 ·exact .inr ⟨c,rfl,c1,c2,by rw[ho c (lt_of_get c3) c2 c1]; exact c3⟩
def FieldK (k:Nat):Prop:=k=1\/k=2\/k=3\/k=5\/k=6\/k=7
structure SBc (X:Hp)(br bs:Nat)(cs:List Value):Prop where
 len:cs.length=9
 c0:∃d,cs[0]?=some (.int .u8 d)
 c4:∃b,cs[4]?=some (.bool b)
 c8:∃b,cs[8]?=some (.bool b)
 row:∀k,FieldK k->∃v ps,cs[k]?=some v/\PR X br bs v ps/\Stp ps/\ps.length<1000000
structure SB (X:Hp)(br bs:Nat):Prop where
 cs:∃cs,X[bs]?=some (.cells true cs)/\SBc X br bs cs
 bad:∃b,X[br]?=some (bB b)
theorem SBc.of {X X':Hp}{br bs:Nat}{cs:List Value}(H:SBc X br bs cs)(ho:∀j,j<X.length->j≠bs->j≠br->X'[j]?=X[j]?):SBc X' br bs cs :=
 ⟨H.len,H.c0,H.c4,H.c8,fun k hk=>by
  obtain⟨v,ps,a,b,c⟩:=H.row k hk;exact⟨v,ps,a,b.of ho,c⟩⟩
theorem SBc.set {X:Hp}{br bs k:Nat}{cs:List Value}(H:SBc X br bs cs)(hk:FieldK k){v:Value}{ps:List (Int×Int×Int)}(hv:PR X br bs v ps)(hs:Stp ps)(hl:ps.length<1000000):SBc X br bs (cs.set k v):=by
 have hl9:=H.len;unfold FieldK at hk;refine⟨by rw[List.length_set]; exact H.len,?_,?_,?_,fun j hj=>?_⟩
 ·rw[List.getElem?_set_ne (by omega)]; exact H.c0
 ·rw[List.getElem?_set_ne (by omega)]; exact H.c4
 ·rw[List.getElem?_set_ne (by omega)]; exact H.c8
 ·by_cases e:k=j
  ·subst e;exact⟨v,ps,List.getElem?_set_self (by omega),hv,hs,hl⟩
  ·rw[List.getElem?_set_ne e];exact H.row j hj
variable {E:Env}(hE:EnvT E){lim:Nat}{h:Hp}
include hE
theorem loop56 (hI:IdxOk E)(hD:DecOk E)(hP:ParseOk E){br bs k b7 bt:Nat}{l m u d:Int}(hu:1<=u)(hu2:u<=1000000){cs:List Value}(hcs:cs.length=9)(hk:k<9){ts:List ByteArray}(hts:ts.length<2000000)(htz:∀j,(ts.getD j ⟨#[]⟩).size<1000000){f:Fr}{X:Hp}{bad:Bool}
  (hbr:X[br]?=some (bB bad))(hbs:X[bs]?=some (.cells true (cs.set k (.slice none 0 0))))(h7:X[b7]?=some (.cells true [.int .i64 l,.int .i64 m,.int .i64 u,.int .i64 d,.pointer (some ⟨bs,k,none⟩)]))(ht:X[bt]?=some (.cells true (strs ts)))(n1:br≠bs)(n2:b7≠bs)(n3:b7≠br)(n4:bt≠bs)(n5:bt≠br)(hlim:lim<=bs)
  (f0:f.rd 0=.pointer (some ⟨br,0,none⟩))(f7:f.rd 7=.pointer (some ⟨b7,0,none⟩))(f37:f.rd 37=.slice (some ⟨bt,0,none⟩) ts.length 1)(f38:f.rd 38=.int .i64 ts.length)(f39:f.rd 39=.int .i64 0){v2 v19 v20 v21:Value}(f2:f.rd 2=v2)(f19:f.rd 19=v19)(f20:f.rd 20=v20)(f21:f.rd 21=v21){P:AX->Fr->Hp->Prop}
  (hx:∀f' X' v ps b,f'.rd 0=.pointer (some ⟨br,0,none⟩)->f'.rd 2=v2->f'.rd 19=v19->f'.rd 20=v20->f'.rd 21=v21->X.length<=X'.length->X'[br]?=some (bB b)->X'[bs]?=some (.cells true (cs.set k v))->PRow X' X.length v ps->Stp ps->ps.length=ts.length->(∀j,j<X.length->j≠bs->j≠br->X'[j]?=X[j]?)->P (.exit 3) f' X'):Post (evK E lim (.loop lp56_0) f X) P:=by
 have l7:=lt_of_get h7;have lsX:=lt_of_get hbs;have lrX:=lt_of_get hbr;have lt:=lt_of_get ht
 refine loop_post hE.mono (fun q g W=>∃(i:Nat) (v:Value) (ps:List (Int×Int×Int)) (b:Bool),i<=ts.length/\ps.length=i/\W[br]?=some (bB b)/\W[bs]?=some (.cells true (cs.set k v))/\PRow W X.length v ps/\Stp ps/\(∀j,j<X.length->j≠bs->j≠br->W[j]?=X[j]?)/\X.length<=W.length /\
  g.rd 0=.pointer (some ⟨br,0,none⟩)/\g.rd 7=.pointer (some ⟨b7,0,none⟩)/\g.rd 37=.slice (some ⟨bt,0,none⟩) ts.length 1/\g.rd 38=.int .i64 ts.length/\g.rd 39=.int .i64 i/\g.rd 2=v2/\g.rd 19=v19/\g.rd 20=v20/\g.rd 21=v21/\ts.length-i=q) ?_ ts.length _ _ ⟨0,_,[],bad,Nat.zero_le _,rfl,hbr,hbs,.inl ⟨rfl,rfl⟩,(fun _ h=>nomatch h),fun _ _ _ _=>rfl,Nat.le_refl _,f0,f7,f37,f38,f39,f2,f19,f20,f21,by omega⟩
 rintro q g W ⟨i,v,ps,b,hi,hps,wr,ws,hv,hst,wo,wl,g0,g7,g37,g38,g39,g2,g19,g20,g21,hq⟩
 by_cases hlt:(i:Int)<ts.length
 ·have hi':i<ts.length:=by omega
  have hgt:=strs_get hi';have hsz:=htz i;generalize ts.getD i ⟨#[]⟩=tx at *;have w7:=(wo b7 l7 n2 n3).trans h7;have wt:=(wo bt lt n4 n5).trans ht;have lr:=lt_of_get wr;have ls:=lt_of_get ws;obtain⟨v',h',e104,x,y,z,b',rfl,z1,z2,rfl⟩:=(c104 hE hI hD hP (lim:=lim) (h:=W) wr (l:=l) (m:=m) (u:=u) (d:=d) (q:=some ⟨bs,k,none⟩) hu hu2 tx hsz).out;have ck:(cs.set k v)[k]?=some v:=by rw[List.getElem?_set_self (by omega)]
  have y7:(W.set br (bB b'))[b7]?=some (.cells true [.int .i64 l,.int .i64 m,.int .i64 u,.int .i64 d,.pointer (some ⟨bs,k,none⟩)]):=by rw[set_ne (by omega)]; exact w7
  have ys:(W.set br (bB b'))[bs]?=some (.cells true (cs.set k v)):=by rw[set_ne n1]; exact ws
  have x1:(i<ts.length)=True:=by simp[hi']
  have x4:IntKind.i64.wrap ((i:Int)+1)=i+1:=wrap64 (by omega) (by omega);have k6:∀c,(W.set br (bB b')++[c])[W.length]?=some c:=fun c=>get_appC0 (by simp);have k8:∀l c,(W.set br (bB b')++l).set bs c=(W.set br (bB b')).set bs c++l:=fun l c=>set_old (by simpa using ls);have k9:∀v',(k<(cs.set k v').length)=True:=fun v'=>by simp; omega
  have k10:(k<cs.length)=True:=by simp; omega
  have k11:(k+1<=cs.length)=True:=by simp; omega
  have hlm:∀q:Prop,(lim<=bs\/q)=True:=fun q=>by simp[hlim]
  have hstep:∀(X':Hp),X'=W.set br (bB b')->True:=fun _ _=>trivial;rcases hv with⟨rfl,rfl⟩ | ⟨c,rfl,hc,hcb⟩
  ·simp only[push_cast,lp56_0,g0,g2,g19,g20,g21,g7,g37,g38,g39,hlt,x1,x4,wt,w7,ws,ck,y7,ys,hgt,e104,Int.natCast_nonneg,Nat.mul_one,sureL,get_old y7,get_old ys,srcOf,k6,k8,hlm,k9,k10,k11,simprocAttr];refine⟨_,?_,i+1,.slice (some ⟨W.length+1,0,none⟩) 1 3,[(x,y,z)],b',by omega,by rw[<- hps]; rfl,?_,?_,.inr ⟨W.length+1,rfl,by omega,get_appC (n:=W.length) (k:=1) (by simp)⟩,?_,fun j j1 j2 j3=>?_,by omega,rfl,rfl⟩
   ·omega
   ·rw[get_lt (by simp; omega),set_ne (by omega),set_get lr]
   ·rw[get_lt (by simp; omega),set_get (by simpa using ls)]
   ·intro p hp;rw[List.mem_singleton.1 hp];exact z1
   ·rw[get_lt (by simp; omega),set_ne (by omega),set_ne (by omega)];exact wo j j1 j2 j3
  ·have lc:=lt_of_get hcb
   have c1:c≠br:=fun e=>by
    subst e;rw[wr] at hcb;unfold bB at hcb;cases ps with
    | nil=>simp[prt] at hcb
    | cons p l=>simp[prt] at hcb
   have c2:c≠bs:=fun e=>by omega
   have k12:∀l d,(W.set br (bB b')++l).set c d=(W.set br (bB b')).set c d++l:=fun l d=>set_old (by simpa using lc);have k13:((W.set br (bB b')).set c .dead).length=W.length:=by simp
   have k14:∀l c',((W.set br (bB b')).set c .dead++l).set bs c'=((W.set br (bB b')).set c .dead).set bs c'++l:=fun l c=>set_old (by simpa using ls);have k15:((W.set br (bB b')).set c .dead)[bs]?=some (.cells true (cs.set k (.slice (some ⟨c,0,none⟩) ps.length 3))):=by rw[set_ne (by omega)]; exact ys
   have k16:(W.set br (bB b'))[c]?=some (.cells true (prt ps)):=by rw[set_ne (by omega)]; exact hcb
   have k17:((ps.length+1)*24<=140737488355328)=True:=by simp; omega
   have k18:∀a b,((W.set br (bB b')).set c .dead++[a,b])[b7]?=some (.cells true [.int .i64 l,.int .i64 m,.int .i64 u,.int .i64 d,.pointer (some ⟨bs,k,none⟩)]):=fun a b=>by rw[get_lt (by simp; omega),set_ne (by omega)]; exact y7
   have hlc:(lim<=c)=True:=by simp; omega
   simp only[push_cast,lp56_0,g0,g2,g19,g20,g21,g7,g37,g38,g39,hlt,x1,x4,wt,w7,ws,ck,y7,ys,hgt,e104,Int.natCast_nonneg,Nat.mul_one,sureL,get_old y7,get_old ys,srcOf,k6,k8,hlm,k9,k10,k11,k12,k13,k14,k15,k17,get_old k16,get_old k15,prt_len,prt_app,hlc,k18,simprocAttr];refine⟨_,?_,i+1,.slice (some ⟨W.length+1,0,none⟩) (ps.length+1) 3,ps++[(x,y,z)],b',by omega,by simp; omega,?_,?_,.inr ⟨W.length+1,by simp,by omega,get_appC (n:=W.length) (k:=1) (by simp)⟩,?_,fun j j1 j2 j3=>?_,by omega,rfl,rfl⟩
   ·omega
   ·rw[get_lt (by simp; omega),set_ne (by omega),set_ne (by omega),set_get lr]
   ·rw[get_lt (by simp; omega),set_get (by simpa using ls)]
   ·intro p hp;rcases List.mem_append.1 hp with hp | hp
    ·exact hst p hp
    ·rw[List.mem_singleton.1 hp];exact z1
   ·rw[get_lt (by simp; omega),set_ne (by omega),set_ne (by omega),set_ne (by omega)];exact wo j j1 j2 j3
 ·simp only[push_cast,lp56_0,g38,g39,hlt,simprocAttr];refine hx _ _ v ps b ?_ ?_ ?_ ?_ ?_ wl wr ws hv hst (by omega) wo<;>simp only[push_cast,g0,g2,g19,g20,g21,simprocAttr]
structure F3 (fc:List Value)(o bs:Nat)(L M U D:Nat->Int)(K:Nat->Nat):Prop where
 get:∀i,i<3->o+i*5+5<=fc.length/\(fc.drop (o+i*5)).take 5=[.int .i64 (L i),.int .i64 (M i),.int .i64 (U i),.int .i64 (D i),.pointer (some ⟨bs,K i,none⟩)]
 k:∀i,i<3->FieldK (K i)
 u:∀i,i<3->1<=U i/\U i<=1000000
theorem c56 (hI:IdxOk E)(hC:CntOk E)(hD:DecOk E)(hP:ParseOk E){br bs bf bt o:Nat}{fc:List Value}{L M U D:Nat->Int}{K:Nat->Nat}(HF:F3 fc o bs L M U D K){xs:List ByteArray}(hxs:xs.length<900000)(hxz:∀j,(xs.getD j ⟨#[]⟩).size<900000)
  (hS:SB h br bs)(hf:h[bf]?=some (.cells true fc))(ht:h[bt]?=some (.cells true (strs xs)))(n1:br≠bs)(n2:bf≠bs)(n3:bf≠br)(n4:bt≠bs)(n5:bt≠br)(hlim:lim<=bs)(hlim2:lim<=br) :
  PostV (evI E lim (.func 56) [.pointer (some ⟨br,0,none⟩),.slice (some ⟨bf,o,none⟩) 3 5,.slice (some ⟨bt,0,none⟩) xs.length 1] h) fun v h'=>SB h' br bs/\(∀j,j<h.length->j≠bs->j≠br->h'[j]?=h[j]?)/\h.length<=h'.length:=by
 have lf:=lt_of_get hf;have lt:=lt_of_get ht
 by_cases hne:xs.length=3
 ·have e3:((3:Int)==(xs.length:Int))=true:=by simp[hne]
  rw[hE.fn T56]; simp only[push_cast,ac56,e3,simprocAttr];refine loop_post hE.mono (fun q g W=>∃i:Nat,i<=3/\SB W br bs/\(∀j,j<h.length->j≠bs->j≠br->W[j]?=h[j]?)/\h.length<=W.length/\g.rd 0=.pointer (some ⟨br,0,none⟩)/\g.rd 2=.slice (some ⟨bt,0,none⟩) xs.length 1/\g.rd 19=.slice (some ⟨bf,o,none⟩) 3 5/\g.rd 20=.int .i64 3/\g.rd 21=.int .i64 i/\3-i=q) ?_ 3 _ _ ⟨0,by omega,hS,fun _ _ _ _=>rfl,Nat.le_refl _,rfl,rfl,rfl,rfl,rfl,rfl⟩;rintro q g W ⟨i,hi,wS,wo,wl,g0,g2,g19,g20,g21,hq⟩
  by_cases hlt:(i:Int)<3
  ·have hi':i<3:=by omega
   obtain⟨f1,f2⟩:=HF.get i hi';obtain⟨u1,u2⟩:=HF.u i hi';have hk:=HF.k i hi';obtain⟨cs,ws,wc⟩:=wS.cs;obtain⟨bad,wr⟩:=wS.bad;have wf:=(wo bf lf n2 n3).trans hf;have wt:=(wo bt lt n4 n5).trans ht;have hgt:=strs_get (xs:=xs) (i:=i) (by omega);have hsz:=hxz i;generalize xs.getD i ⟨#[]⟩=tx at *;have ls:=lt_of_get ws;have lr:=lt_of_get wr;have k9:K i<9:=by unfold FieldK at hk; omega
   have hl9:=wc.len;have x1:(i<xs.length)=True:=by simp; omega
   have x2:(K i<cs.length)=True:=by simp; omega
   have x3:(K i+1<=cs.length)=True:=by simp; omega
   have x4:IntKind.i64.wrap ((i:Int)+1)=i+1:=wrap64 (by omega) (by omega);have x5:∀q:Prop,(lim<=bs\/q)=True:=fun q=>by simp[hlim]
   have x6:∀q:Prop,(lim<=W.length\/q)=True:=fun q=>by simp; omega
   have x7:(i<3)=True:=by simp[hi']
   have x8:(o+i*5+5<=fc.length)=True:=by simp[f1]
   have s1:∀l c,(W++l).set bs c=W.set bs c++l:=fun l c=>set_old ls;have s2:∀x l,(W.set bs x++l)[bt]?=some (.cells true (strs xs)):=fun x l=>get_old (by rw[set_ne (by omega)]; exact wt);have x0:((i:Int)<(xs.length:Int))=True:=by simp; omega
   have hset:∀X' v ps b,X'[br]?=some (bB b)->X'[bs]?=some (.cells true (cs.set (K i) v))->PR X' br bs v ps->Stp ps->ps.length<1000000->(∀j,j<W.length->j≠bs->j≠br->X'[j]?=W[j]?)->SB X' br bs:=fun X' v ps b e1 e2 e3 e4 e5 e6 =>
    ⟨⟨_,e2,(wc.of e6).set hk e3 e4 e5⟩,⟨b,e1⟩⟩
   cases hst:tx.toList==(⟨#[42]⟩:ByteArray).toList with
   | false =>
    have hXl:(W.set bs (Blk.cells true (cs.set (K i) (.slice none 0 0)))++[Blk.cells true [.int .i64 (L i),.int .i64 (M i),.int .i64 (U i),.int .i64 (D i),.pointer (some ⟨bs,K i,none⟩)]]).length=W.length+1:=by simp
    obtain⟨v,h',e54,ts,rfl,rfl,t1,t2,t3⟩:=(c54 hE hI hC (lim:=lim) (h:=W.set bs (.cells true (cs.set (K i) (.slice none 0 0)))++[.cells true [.int .i64 (L i),.int .i64 (M i),.int .i64 (U i),.int .i64 (D i),.pointer (some ⟨bs,K i,none⟩)]]) tx 44 (by omega) (by simp; omega)).out;rw[hXl] at e54;simp only[List.append_assoc,List.cons_append,List.nil_append] at e54;simp only[push_cast,lp56_1,g0,g2,g19,g20,g21,hlt,wf,x0,x1,x2,x3,x4,x5,x6,x7,x8,f2,get_old ws,s1,s2,hgt,hst,Int.natCast_nonneg,Nat.mul_one,e54,simprocAttr];refine loop56 hE hI hD hP (bs:=bs) (k:=K i) (b7:=W.length) (bt:=W.length+1) (br:=br) (l:=L i) (m:=M i) (u:=U i) (d:=D i) u1 u2 hl9 k9 (ts:=ts) (by omega) (fun j=>by have:=t3 j; omega) (bad:=bad) ?_ ?_ (get_appC0 (by simp)) (get_appC (k:=1) (by simp)) n1 (by omega) (by omega) (by omega) (by omega) hlim (by simp[g0]) (by simp) (by simp) (by simp) (by simp) (v2:=.slice (some ⟨bt,0,none⟩) xs.length 1) (v19:=.slice (some ⟨bf,o,none⟩) 3 5) (v20:=.int .i64 3) (v21:=.int .i64 i) (by simp[g2]) (by simp[g19]) (by simp[g20]) (by simp[g21]) ?_
    ·rw[get_lt (by simp; omega),set_ne (by omega)]; exact wr
    ·rw[get_lt (by simp; omega),set_get ls]
    ·intro f' X' v ps b q0 q2 q19 q20 q21 ql r1 r2 r3 r4 r5 r6;simp only[List.length_append,List.length_set,List.length_cons,List.length_nil] at ql r6
     have hW:∀j,j<W.length->j≠bs->j≠br->X'[j]?=W[j]?:=fun j j1 j2 j3=>by
      rw[r6 j (by omega) j2 j3,get_lt (by simp; omega),set_ne (by omega)]
     simp only[push_cast,q0,q2,q19,q20,q21,x4,simprocAttr];refine⟨3-(i+1),by omega,i+1,by omega,hset X' v ps b r1 r2 ?_ r4 (by omega) hW,fun j j1 j2 j3=>by rw[hW j (by omega) j2 j3]; exact wo j j1 j2 j3,by omega,rfl,rfl⟩;rcases r3 with r3 | ⟨c,e1,e2,e3⟩
     ·exact .inl r3
     ·simp only[List.length_append,List.length_set,List.length_cons,List.length_nil] at e2;exact .inr ⟨c,e1,by omega,by omega,e3⟩
   | true =>
    by_cases hu1:U i>1
    ·have s3:∀x l c,(W.set bs x++l).set bs c=W.set bs c++l:=fun x l c=>by rw[set_old (by simpa using ls),List.set_set]
     have s4:∀(x:Blk) (l:Hp),(W.set bs x++l)[bs]?=some x:=fun x l=>get_old (set_get ls);have s5:∀x c l,(W.set bs x++c::l)[W.length]?=some c:=fun x c l=>get_appC0 (by simp);simp only[push_cast,lp56_1,g0,g2,g19,g20,g21,hlt,wf,x0,x1,x2,x3,x4,x5,x6,x7,x8,f2,get_old ws,s1,s2,hgt,hst,Int.natCast_nonneg,Nat.mul_one,s3,s4,s5,hu1,c105 hE,sureL,simprocAttr];refine⟨3-(i+1),by omega,i+1,by omega,hset _ (.slice (some ⟨W.length+1,0,none⟩) 1 3) [(L i,M i,U i)] bad ?_ ?_ (.inr ⟨W.length+1,rfl,by omega,by omega,get_appC (n:=W.length) (k:=1) (by simp)⟩) (fun p hp=>by rw[List.mem_singleton.1 hp]; show U i<=10000000000000; omega) (by simp) (fun j j1 j2 j3=>by rw[get_lt (by simp; omega),set_ne (by omega)]),fun j j1 j2 j3=>?_,by omega,rfl,rfl⟩
     ·rw[get_lt (by simp; omega),set_ne (by omega)]; exact wr
     ·rw[get_lt (by simp; omega),set_get ls]
     ·rw[get_lt (by simp; omega),set_ne (by omega)];exact wo j j1 j2 j3
    ·have s5:∀x c l,(W.set bs x++c::l)[W.length]?=some c:=fun x c l=>get_appC0 (by simp);simp only[push_cast,lp56_1,g0,g2,g19,g20,g21,hlt,wf,x0,x1,x2,x3,x4,x5,x6,x7,x8,f2,get_old ws,s1,s2,hgt,hst,Int.natCast_nonneg,Nat.mul_one,s5,hu1,simprocAttr];refine⟨3-(i+1),by omega,i+1,by omega,hset _ (.slice none 0 0) [] bad ?_ ?_ (.inl ⟨rfl,rfl⟩) (fun p hp=>nomatch hp) (by simp) ?_,fun j j1 j2 j3=>?_,by first | omega | (simp; omega),rfl,rfl⟩
     ·rw[get_lt (by simp; omega),set_ne (by omega)]; exact wr
     ·rw[get_lt (by simp; omega),set_get ls]
     ·exact fun j j1 j2 j3=>by rw[get_lt (by simp; omega),set_ne (by omega)]
     ·rw[get_lt (by simp; omega),set_ne (by omega)];exact wo j j1 j2 j3
  ·simp only[push_cast,lp56_1,g20,g21,hlt,simprocAttr];exact⟨wS,wo,wl⟩
 ·have e3:((3:Int)==(xs.length:Int))=false:=by simp; omega
  obtain⟨bad,wr⟩:=hS.bad;obtain⟨cs,ws,wc⟩:=hS.cs;have lr:=lt_of_get wr;unfold bB at wr;have hl2:∀q:Prop,(lim<=br\/q)=True:=fun q=>by simp[hlim2]
  rw[hE.fn T56]; simp only[push_cast,ac56,e3,wr,hl2,simprocAttr];have ho:∀(j:Nat),j<h.length->j≠bs->j≠br->(h.set br (Blk.cells true [Value.bool true]))[j]?=h[j]?:=fun j j1 j2 j3=>set_ne (by omega);refine⟨⟨⟨cs,by rw[set_ne n1]; exact ws,wc.of ho⟩,⟨true,set_get lr⟩⟩,?_⟩
  first | exact ho | exact⟨ho,by simp⟩
end
section
open Tb
def LowOk (E:Env):Prop:=∀(lim:Nat) (s:ByteArray) (h:Hp),s.size<1000000->∃t,evI E lim (.func 98) [.string s] h=some (.string t,h)
def dayL:List ByteArray:=[⟨#[109,111,110,100,97,121]⟩,⟨#[116,117,101,115,100,97,121]⟩,⟨#[119,101,100,110,101,115,100,97,121]⟩,⟨#[116,104,117,114,115,100,97,121]⟩,⟨#[102,114,105,100,97,121]⟩,⟨#[115,97,116,117,114,100,97,121]⟩,⟨#[115,117,110,100,97,121]⟩]
variable {E:Env}(hE:EnvT E){lim:Nat}{h:Hp}
include hE
theorem c161 {b:Nat}{own:Bool}{s t:ByteArray}(hb:h[b]?=some (.cells own [.string s]))(ht:3<=t.size):∃r,evI E lim (.func 161) [.string t,.pointer (some ⟨b,0,none⟩)] h=some (.bool r,h):=by
 have h3:((3:Int)<=t.size)=True:=by simp; omega
 cases hc:s.toList==t.toList with
 | true=>exact⟨_,by rw[hE.fn T161]; simp +contextual only[push_cast,ac161,hb,hc,simprocAttr]; rfl⟩
 | false=>exact⟨_,by rw[hE.fn T161]; simp +contextual only[push_cast,ac161,hb,hc,bound,Option.map_none,h3,simprocAttr]; rfl⟩
theorem c100 (hL:LowOk E)(s:ByteArray)(hs:s.size<1000000):∃r:Int,evI E lim (.func 100) [.string s] h=some (.int .i64 r,h)/\-1<=r/\r<=6:=by
 obtain⟨t,e98⟩:=hL h.length s (h++[.cells true [.string s],.cells true (strs dayL)]) hs
 have hS:SlK 1 (h++[.cells true [.string t],.cells true (strs dayL)]) (some ⟨h.length+1,0,none⟩) 7 1 fun j=>[.string (dayL.getD j ⟨#[]⟩)]:=fun _=>⟨h.length+1,0,true,strs dayL,rfl,rfl,get_app,by decide,fun j hj=>by
  have:j=0\/j=1\/j=2\/j=3\/j=4\/j=5\/j=6:=by omega
  rcases this with rfl | rfl | rfl | rfl | rfl | rfl | rfl<;>rfl⟩
 obtain⟨Y,hY⟩:∃Y,Y=h++[Blk.cells true [.string t],.cells true (strs dayL)]:=⟨_,rfl⟩;rw[<- hY] at hS;have hb:Y[h.length]?=some (.cells true [.string t]):=by rw[hY]; exact get_app0
 have hq:∀j,∃r,j<7->evI E Y.length (.func 161) [.string (dayL.getD j ⟨#[]⟩),.pointer (some ⟨h.length,0,none⟩)] Y=some (.bool r,Y):=fun j=>by
  by_cases hj:j<7
  ·obtain⟨r,e⟩:=c161 hE (lim:=Y.length) (h:=Y) (b:=h.length) (own:=true) (s:=t) (t:=dayL.getD j ⟨#[]⟩) hb (by
    have:j=0\/j=1\/j=2\/j=3\/j=4\/j=5\/j=6:=by omega
    rcases this with rfl | rfl | rfl | rfl | rfl | rfl | rfl<;>decide)
   exact⟨r,fun _=>e⟩
  ·exact⟨true,fun h=>absurd h hj⟩
 obtain⟨r,e160,r1,r2⟩:∃r:Int,evI E h.length (.func 160) [.slice (some ⟨h.length+1,0,none⟩) 7 1,.func (.func 161) #[] #[.pointer (some ⟨h.length,0,none⟩)]] Y=some (.int .i64 r,Y)/\-1<=r/\r<=6:=by
  have:=findI_in (fun j=>(hq j).choose) 7 0;exact⟨_,c160 hE (lim:=h.length) (p:=161) (fa:=#[]) (fb:=#[.pointer (some ⟨h.length,0,none⟩)]) (q:=fun j=>(hq j).choose) hS (by omega) (fun j hj=>(hq j).choose_spec hj),this.1,by omega⟩
 rw[hY] at e160;simp only[strs,dayL,List.map_cons,List.map_nil] at e160 e98;refine⟨r,?_,r1,r2⟩;rw[hE.fn T100]; simp +contextual only[push_cast,ac100,e98,e160,bound,Option.map_none,Int.le_refl,simprocAttr]
theorem loop51 {a b x:Int}(a1:0<=a)(a2:a<=6)(b1:0<=b)(b2:b<=6){f:Fr}{X:Hp}{v13 v14 v15:Value}(f2:f.rd 2=.int .u8 x)(f3:f.rd 3=.bool false)(f10:f.rd 10=.int .i64 b)(f11:f.rd 11=.int .i64 a)(f13:f.rd 13=v13)(f14:f.rd 14=v14)(f15:f.rd 15=v15){P:AX->Fr->Hp->Prop}
  (hP:∀f' x',f'.rd 2=.int .u8 x'->f'.rd 3=.bool false->f'.rd 10=.int .i64 b->f'.rd 13=v13->f'.rd 14=v14->f'.rd 15=v15->P (.exit 2) f' X):Post (evK E lim (.loop lp51_0) f X) P:=by
 refine loop_post hE.mono (fun q g W=>∃(k x:Int),g.rd 2=.int .u8 x/\g.rd 3=.bool false/\g.rd 10=.int .i64 b/\g.rd 11=.int .i64 k/\g.rd 13=v13/\g.rd 14=v14/\g.rd 15=v15/\W=X/\0<=k/\k<=6/\((b-k+7)%7).toNat=q) ?_ _ _ _ ⟨a,x,f2,f3,f10,f11,f13,f14,f15,rfl,a1,a2,rfl⟩;rintro q g W ⟨k,x,g2,g3,g10,g11,g13,g14,g15,rfl,k1,k2,hq⟩;cases hkb:(k==b) with
 | false =>
  have hne:k≠b:=by simpa using hkb
  have w1:=w64 (x:=k+1);have w2:(k+1).tmod 7=(k+1)%7:=Int.tmod_eq_emod_of_nonneg (by omega);have w3:(k<0)=False:=by simp; omega
  simp only[push_cast,lp51_0,g2,g3,g10,g11,g13,g14,g15,hkb,w1,w2,w3,simprocAttr];exact⟨((b-(k+1)%7+7)%7).toNat,by omega,_,_,rfl,rfl,by omega,by omega,rfl⟩
 | true =>
  simp only[push_cast,lp51_0,g10,g11,hkb,simprocAttr];refine hP _ x ?_ ?_ ?_ ?_ ?_ ?_<;>simp only[push_cast,g2,g3,g10,g13,g14,g15,simprocAttr]
theorem c51 (hI:IdxOk E)(hC:CntOk E)(hL:LowOk E)(s:ByteArray)(hs:s.size<900000):∃(x:Int) (ok:Bool),evI E lim (.func 51) [.string s] h=some (.tuple #[.int .u8 x,.bool ok],h):=by
 suffices hh:PostV (evI E lim (.func 51) [.string s] h) fun v h'=>h'=h/\∃(x:Int) (ok:Bool),v=.tuple #[.int .u8 x,.bool ok] by
  obtain⟨v,h',e,rfl,x,ok,rfl⟩:=hh.out;exact⟨x,ok,e⟩
 obtain⟨v,h',e54,ts,rfl,rfl,t1,t2,t3⟩:=(c54 hE hI hC (lim:=h.length) (h:=h) s 44 (by omega) (Nat.le_refl _)).out;rw[hE.fn T51]; simp only[push_cast,ac51,e54,simprocAttr];refine loop_post hE.mono (fun q g W=>∃(i:Nat) (x:Int),i<=ts.length/\W=h++[.cells true (strs ts)]/\g.rd 2=.int .u8 x/\g.rd 3=.bool false/\g.rd 13=.slice (some ⟨h.length,0,none⟩) ts.length 1/\g.rd 14=.int .i64 ts.length/\g.rd 15=.int .i64 i/\ts.length-i=q) ?_ ts.length _ _ ⟨0,0,Nat.zero_le _,rfl,rfl,rfl,rfl,rfl,rfl,by omega⟩;rintro q g W ⟨i,x,hi,rfl,g2,g3,g13,g14,g15,hq⟩
 by_cases hlt:(i:Int)<ts.length
 ·have hi':i<ts.length:=by omega
  have hgt:=strs_get hi';have hsz:=t3 i;generalize ts.getD i ⟨#[]⟩=tx at *;have x1:(i<ts.length)=True:=by simp[hi']
  have x4:IntKind.i64.wrap ((i:Int)+1)=i+1:=wrap64 (by omega) (by omega);obtain⟨fr,to,rg,e99,y1,y2⟩:=c99 hE hI (lim:=h.length) (h:=h++[.cells true (strs ts)]) tx ⟨#[46,46]⟩ (by omega) (by show 2<1000000; omega);obtain⟨a,ea,a1,a2⟩:=c100 hE hL (lim:=h.length) (h:=h++[.cells true (strs ts)]) fr (by omega);cases rg with
  | true =>
   obtain⟨b,eb,b1,b2⟩:=c100 hE hL (lim:=h.length) (h:=h++[.cells true (strs ts)]) to (by omega)
   by_cases ha:a<0
   ·by_cases hb:b<0
    ·simp only[push_cast,lp51_1,g2,g3,g13,g14,g15,hlt,x1,x4,hgt,e99,ea,eb,ha,hb,Int.natCast_nonneg,Nat.mul_one,simprocAttr];exact⟨_,_,rfl⟩
    ·simp only[push_cast,lp51_1,g2,g3,g13,g14,g15,hlt,x1,x4,hgt,e99,ea,eb,ha,hb,Int.natCast_nonneg,Nat.mul_one,simprocAttr];exact⟨_,_,rfl⟩
   ·by_cases hb:b<0
    ·simp only[push_cast,lp51_1,g2,g3,g13,g14,g15,hlt,x1,x4,hgt,e99,ea,eb,ha,hb,Int.natCast_nonneg,Nat.mul_one,simprocAttr];exact⟨_,_,rfl⟩
    ·simp only[push_cast,lp51_1,g2,g3,g13,g14,g15,hlt,x1,x4,hgt,e99,ea,eb,ha,hb,Int.natCast_nonneg,Nat.mul_one,simprocAttr];refine loop51 hE (a:=a) (b:=b) (x:=x) (by omega) a2 (by omega) b2 (v13:=.slice (some ⟨h.length,0,none⟩) ts.length 1) (v14:=.int .i64 ts.length) (v15:=.int .i64 i) (by simp[g2]) (by simp[g3]) (by simp) (by simp) (by simp[g13]) (by simp[g14]) (by simp[g15]) ?_;intro f' x' q2 q3 q10 q13 q14 q15;have w3:(b<0)=False:=by simp; omega
     simp only[push_cast,q2,q3,q10,q13,q14,q15,w3,x4,simprocAttr];exact⟨ts.length-(i+1),by omega,i+1,_,by omega,rfl,rfl,rfl⟩
  | false =>
   by_cases ha:a<0
   ·simp only[push_cast,lp51_1,g2,g3,g13,g14,g15,hlt,x1,x4,hgt,e99,ea,ha,Int.natCast_nonneg,Nat.mul_one,simprocAttr];exact⟨_,_,rfl⟩
   ·simp only[push_cast,lp51_1,g2,g3,g13,g14,g15,hlt,x1,x4,hgt,e99,ea,ha,Int.natCast_nonneg,Nat.mul_one,simprocAttr];refine loop51 hE (a:=a) (b:=a) (x:=x) (by omega) a2 (by omega) a2 (v13:=.slice (some ⟨h.length,0,none⟩) ts.length 1) (v14:=.int .i64 ts.length) (v15:=.int .i64 i) (by simp[g2]) (by simp[g3]) (by simp) (by simp) (by simp[g13]) (by simp[g14]) (by simp[g15]) ?_;intro f' x' q2 q3 q10 q13 q14 q15;have w3:(a<0)=False:=by simp; omega
    simp only[push_cast,q2,q3,q10,q13,q14,q15,w3,x4,simprocAttr];exact⟨ts.length-(i+1),by omega,i+1,_,by omega,rfl,rfl,rfl⟩
 ·simp only[push_cast,lp51_1,g2,g14,g15,hlt,simprocAttr];exact⟨_,_,rfl⟩
def shortE:List (Value×Value):=[(.string ⟨#[109,105,110,117,116,101,108,121]⟩,.agg #[.string ⟨#[42,45,42,45,42,32,42,58,42,58,48,48]⟩]),(.string ⟨#[104,111,117,114,108,121]⟩,.agg #[.string ⟨#[42,45,42,45,42,32,42,58,48,48,58,48,48]⟩]),(.string ⟨#[100,97,105,108,121]⟩,.agg #[.string ⟨#[48,48,58,48,48,58,48,48]⟩]),(.string ⟨#[109,105,100,110,105,103,104,116]⟩,.agg #[.string ⟨#[48,48,58,48,48,58,48,48]⟩]),(.string ⟨#[119,101,101,107,108,121]⟩,.agg #[.string ⟨#[77,111,110,32,48,48,58,48,48,58,48,48]⟩]),(.string ⟨#[109,111,110,116,104,108,121]⟩,.agg #[.string ⟨#[42,45,42,45,48,49,32,48,48,58,48,48,58,48,48]⟩]),(.string ⟨#[113,117,97,114,116,101,114,108,121]⟩,.agg #[.string ⟨#[42,45,48,49,44,48,52,44,48,55,44,49,48,45,48,49,32,48,48,58,48,48,58,48,48]⟩]),(.string ⟨#[115,101,109,105,97,110,110,117,97,108,108,121]⟩,.agg #[.string ⟨#[42,45,48,49,44,48,55,45,48,49,32,48,48,58,48,48,58,48,48]⟩]),(.string ⟨#[121,101,97,114,108,121]⟩,.agg #[.string ⟨#[42,45,48,49,45,48,49,32,48,48,58,48,48,58,48,48]⟩]),(.string ⟨#[97,110,110,117,97,108,108,121]⟩,.agg #[.string ⟨#[42,45,48,49,45,48,49,32,48,48,58,48,48,58,48,48]⟩])]
omit hE in
theorem mfind_str (t:ByteArray):∀(es:List (Value×Value)) (i:Nat),(∀e,e∈es->∃k v,e=(.string k,.agg #[.string v])/\v.size<100)->∃r,mfind true (.string t) es i=some r/\(r=none\/∃j v,r=some (j,.agg #[.string v])/\v.size<100)
 | [],i,_=>⟨none,rfl,.inl rfl⟩
 | e::es,i,h=>by
  obtain⟨k,v,rfl,hv⟩:=h e (by simp);unfold mfind;simp only[keyEq];cases hk:(t==k) with
  | true=>exact⟨some (i,.agg #[.string v]),rfl,.inr ⟨i,v,rfl,hv⟩⟩
  | false=>exact mfind_str t es (i+1) fun e he=>h e (by simp[he])
omit hE in
theorem mf0:mfind true (.string ⟨#[109,105,110,117,116,101,108,121]⟩) [] 0=some none:=by rfl
omit hE in
theorem mf1:mfind true (.string ⟨#[104,111,117,114,108,121]⟩) [(.string ⟨#[109,105,110,117,116,101,108,121]⟩,.agg #[.string ⟨#[42,45,42,45,42,32,42,58,42,58,48,48]⟩])] 0=some none:=by rfl
omit hE in
theorem mf2:mfind true (.string ⟨#[100,97,105,108,121]⟩) [(.string ⟨#[109,105,110,117,116,101,108,121]⟩,.agg #[.string ⟨#[42,45,42,45,42,32,42,58,42,58,48,48]⟩]),(.string ⟨#[104,111,117,114,108,121]⟩,.agg #[.string ⟨#[42,45,42,45,42,32,42,58,48,48,58,48,48]⟩])] 0=some none:=by rfl
omit hE in
theorem mf3:mfind true (.string ⟨#[109,105,100,110,105,103,104,116]⟩) [(.string ⟨#[109,105,110,117,116,101,108,121]⟩,.agg #[.string ⟨#[42,45,42,45,42,32,42,58,42,58,48,48]⟩]),(.string ⟨#[104,111,117,114,108,121]⟩,.agg #[.string ⟨#[42,45,42,45,42,32,42,58,48,48,58,48,48]⟩]),(.string ⟨#[100,97,105,108,121]⟩,.agg #[.string ⟨#[48,48,58,48,48,58,48,48]⟩])] 0=some none:=by rfl
omit hE in
theorem mf4:mfind true (.string ⟨#[119,101,101,107,108,121]⟩) [(.string ⟨#[109,105,110,117,116,101,108,121]⟩,.agg #[.string ⟨#[42,45,42,45,42,32,42,58,42,58,48,48]⟩]),(.string ⟨#[104,111,117,114,108,121]⟩,.agg #[.string ⟨#[42,45,42,45,42,32,42,58,48,48,58,48,48]⟩]),(.string ⟨#[100,97,105,108,121]⟩,.agg #[.string ⟨#[48,48,58,48,48,58,48,48]⟩]),(.string ⟨#[109,105,100,110,105,103,104,116]⟩,.agg #[.string ⟨#[48,48,58,48,48,58,48,48]⟩])] 0=some none:=by rfl
omit hE in
theorem mf5:mfind true (.string ⟨#[109,111,110,116,104,108,121]⟩) [(.string ⟨#[109,105,110,117,116,101,108,121]⟩,.agg #[.string ⟨#[42,45,42,45,42,32,42,58,42,58,48,48]⟩]),(.string ⟨#[104,111,117,114,108,121]⟩,.agg #[.string ⟨#[42,45,42,45,42,32,42,58,48,48,58,48,48]⟩]),(.string ⟨#[100,97,105,108,121]⟩,.agg #[.string ⟨#[48,48,58,48,48,58,48,48]⟩]),(.string ⟨#[109,105,100,110,105,103,104,116]⟩,.agg #[.string ⟨#[48,48,58,48,48,58,48,48]⟩]),(.string ⟨#[119,101,101,107,108,121]⟩,.agg #[.string ⟨#[77,111,110,32,48,48,58,48,48,58,48,48]⟩])] 0=some none:=by rfl
omit hE in
theorem mf6:mfind true (.string ⟨#[113,117,97,114,116,101,114,108,121]⟩) [(.string ⟨#[109,105,110,117,116,101,108,121]⟩,.agg #[.string ⟨#[42,45,42,45,42,32,42,58,42,58,48,48]⟩]),(.string ⟨#[104,111,117,114,108,121]⟩,.agg #[.string ⟨#[42,45,42,45,42,32,42,58,48,48,58,48,48]⟩]),(.string ⟨#[100,97,105,108,121]⟩,.agg #[.string ⟨#[48,48,58,48,48,58,48,48]⟩]),(.string ⟨#[109,105,100,110,105,103,104,116]⟩,.agg #[.string ⟨#[48,48,58,48,48,58,48,48]⟩]),(.string ⟨#[119,101,101,107,108,121]⟩,.agg #[.string ⟨#[77,111,110,32,48,48,58,48,48,58,48,48]⟩]),(.string ⟨#[109,111,110,116,104,108,121]⟩,.agg #[.string ⟨#[42,45,42,45,48,49,32,48,48,58,48,48,58,48,48]⟩])] 0=some none:=by rfl
omit hE in
theorem mf7:mfind true (.string ⟨#[115,101,109,105,97,110,110,117,97,108,108,121]⟩) [(.string ⟨#[109,105,110,117,116,101,108,121]⟩,.agg #[.string ⟨#[42,45,42,45,42,32,42,58,42,58,48,48]⟩]),(.string ⟨#[104,111,117,114,108,121]⟩,.agg #[.string ⟨#[42,45,42,45,42,32,42,58,48,48,58,48,48]⟩]),(.string ⟨#[100,97,105,108,121]⟩,.agg #[.string ⟨#[48,48,58,48,48,58,48,48]⟩]),(.string ⟨#[109,105,100,110,105,103,104,116]⟩,.agg #[.string ⟨#[48,48,58,48,48,58,48,48]⟩]),(.string ⟨#[119,101,101,107,108,121]⟩,.agg #[.string ⟨#[77,111,110,32,48,48,58,48,48,58,48,48]⟩]),(.string ⟨#[109,111,110,116,104,108,121]⟩,.agg #[.string ⟨#[42,45,42,45,48,49,32,48,48,58,48,48,58,48,48]⟩]),(.string ⟨#[113,117,97,114,116,101,114,108,121]⟩,.agg #[.string ⟨#[42,45,48,49,44,48,52,44,48,55,44,49,48,45,48,49,32,48,48,58,48,48,58,48,48]⟩])] 0=some none:=by rfl
omit hE in
theorem mf8:mfind true (.string ⟨#[121,101,97,114,108,121]⟩) [(.string ⟨#[109,105,110,117,116,101,108,121]⟩,.agg #[.string ⟨#[42,45,42,45,42,32,42,58,42,58,48,48]⟩]),(.string ⟨#[104,111,117,114,108,121]⟩,.agg #[.string ⟨#[42,45,42,45,42,32,42,58,48,48,58,48,48]⟩]),(.string ⟨#[100,97,105,108,121]⟩,.agg #[.string ⟨#[48,48,58,48,48,58,48,48]⟩]),(.string ⟨#[109,105,100,110,105,103,104,116]⟩,.agg #[.string ⟨#[48,48,58,48,48,58,48,48]⟩]),(.string ⟨#[119,101,101,107,108,121]⟩,.agg #[.string ⟨#[77,111,110,32,48,48,58,48,48,58,48,48]⟩]),(.string ⟨#[109,111,110,116,104,108,121]⟩,.agg #[.string ⟨#[42,45,42,45,48,49,32,48,48,58,48,48,58,48,48]⟩]),(.string ⟨#[113,117,97,114,116,101,114,108,121]⟩,.agg #[.string ⟨#[42,45,48,49,44,48,52,44,48,55,44,49,48,45,48,49,32,48,48,58,48,48,58,48,48]⟩]),(.string ⟨#[115,101,109,105,97,110,110,117,97,108,108,121]⟩,.agg #[.string ⟨#[42,45,48,49,44,48,55,45,48,49,32,48,48,58,48,48,58,48,48]⟩])] 0=some none:=by rfl
omit hE in
theorem mf9:mfind true (.string ⟨#[97,110,110,117,97,108,108,121]⟩) [(.string ⟨#[109,105,110,117,116,101,108,121]⟩,.agg #[.string ⟨#[42,45,42,45,42,32,42,58,42,58,48,48]⟩]),(.string ⟨#[104,111,117,114,108,121]⟩,.agg #[.string ⟨#[42,45,42,45,42,32,42,58,48,48,58,48,48]⟩]),(.string ⟨#[100,97,105,108,121]⟩,.agg #[.string ⟨#[48,48,58,48,48,58,48,48]⟩]),(.string ⟨#[109,105,100,110,105,103,104,116]⟩,.agg #[.string ⟨#[48,48,58,48,48,58,48,48]⟩]),(.string ⟨#[119,101,101,107,108,121]⟩,.agg #[.string ⟨#[77,111,110,32,48,48,58,48,48,58,48,48]⟩]),(.string ⟨#[109,111,110,116,104,108,121]⟩,.agg #[.string ⟨#[42,45,42,45,48,49,32,48,48,58,48,48,58,48,48]⟩]),(.string ⟨#[113,117,97,114,116,101,114,108,121]⟩,.agg #[.string ⟨#[42,45,48,49,44,48,52,44,48,55,44,49,48,45,48,49,32,48,48,58,48,48,58,48,48]⟩]),(.string ⟨#[115,101,109,105,97,110,110,117,97,108,108,121]⟩,.agg #[.string ⟨#[42,45,48,49,44,48,55,45,48,49,32,48,48,58,48,48,58,48,48]⟩]),(.string ⟨#[121,101,97,114,108,121]⟩,.agg #[.string ⟨#[42,45,48,49,45,48,49,32,48,48,58,48,48,58,48,48]⟩])] 0=some none:=by rfl
theorem c50 (hL:LowOk E)(s:ByteArray)(hs:s.size<1000000):∃(t:ByteArray) (ok:Bool),evI E lim (.func 50) [.string s] h=some (.tuple #[.string t,.bool ok],h)/\t.size<100:=by
 obtain⟨t,e98⟩:=hL h.length s (h++[.map shortE]) hs
 obtain⟨r,em,hr⟩:=mfind_str t shortE 0 (fun e he=>by
  simp only[shortE,List.mem_cons,List.not_mem_nil,or_false] at he;rcases he with rfl | rfl | rfl | rfl | rfl | rfl | rfl | rfl | rfl | rfl<;>exact⟨_,_,rfl,by decide⟩)
 simp only[shortE] at e98 em;rcases hr with rfl | ⟨j,v,rfl,hv⟩
 ·refine⟨⟨#[]⟩,false,?_,by decide⟩;rw[hE.fn T50]; simp +contextual only[push_cast,ac50,mf0,mf1,mf2,mf3,mf4,mf5,mf6,mf7,mf8,mf9,e98,em,mapOf,zeroVal,simprocAttr]
 ·refine⟨v,true,?_,hv⟩;rw[hE.fn T50]; simp +contextual only[push_cast,ac50,mf0,mf1,mf2,mf3,mf4,mf5,mf6,mf7,mf8,mf9,e98,em,mapOf,zeroVal,simprocAttr]
end
end Go.Ab
