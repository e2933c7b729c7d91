/- What Go code of this program comes to on a small machine that its translation simulates (a part of the proof of a law of its timers). No condition. -/
import Derived.Test.YthbopkpamlbjoaaGreatDoorK05
set_option linter.unusedSimpArgs false
set_option linter.unusedVariables false
set_option linter.unusedSectionVars false
set_option maxHeartbeats 4000000
namespace Go.Ab
section
open Tb
def iv (cs:List Value)(i:Int):Int:=match cs[i.toNat]? with
 | some (.int _ x)=>x
 | _=>0
structure RowI (Q:Int->Prop)(N:Nat)(cs:List Value)(n:Nat):Prop where
 tot:cs.length=N
 len:n<=cs.length
 all:∀j,j<N->∃x,cs[j]?=some (.int .i64 x)
 q:∀j x,j<n->cs[j]?=some (.int .i64 x)->Q x
theorem RowI.both {Q:Int->Prop}{N:Nat}{cs:List Value}{n:Nat}(H:RowI Q N cs n){i:Int}(h0:0<=i)(h1:i<n):cs[i.toNat]?=some (.int .i64 (iv cs i))/\Q (iv cs i):=by
 obtain⟨x,e⟩:=H.all i.toNat (by have:=H.tot; have:=H.len; omega);have:iv cs i=x:=by unfold iv; rw[e]
 rw[this];exact⟨e,H.q _ _ (by omega) e⟩
theorem RowI.get {Q:Int->Prop}{N:Nat}{cs:List Value}{n:Nat}(H:RowI Q N cs n){i:Int}(h0:0<=i)(h1:i<n):cs[i.toNat]?=some (.int .i64 (iv cs i)):=(H.both h0 h1).1
theorem RowI.set {Q:Int->Prop}{N:Nat}{cs:List Value}{n:Nat}(H:RowI Q N cs n){x:Int}(hx:Q x)(k:Nat):RowI Q N (cs.set k (.int .i64 x)) n:=by
 have h1:=H.tot;have h2:=H.len;refine⟨by rw[List.length_set]; exact h1,by rw[List.length_set]; exact h2,fun j hj=>?_,fun j y hj hy=>?_⟩
 ·by_cases e:k=j
  ·subst e;exact⟨x,List.getElem?_set_self (by omega)⟩
  ·rw[List.getElem?_set_ne e];exact H.all j hj
 ·by_cases e:k=j
  ·subst e;rw[List.getElem?_set_self (by omega)] at hy;cases hy;exact hx
  ·rw[List.getElem?_set_ne e] at hy;exact H.q j y hj hy
theorem RowI.swap {Q:Int->Prop}{N:Nat}{cs:List Value}{n:Nat}(H:RowI Q N cs n){x y:Int}(x0:0<=x:=by omega)(x1:x<n:=by omega)(y0:0<=y:=by omega)(y1:y<n:=by omega) :
  RowI Q N ((cs.set x.toNat (.int .i64 (iv cs y))).set y.toNat (.int .i64 (iv cs x))) n:=(H.set (H.both y0 y1).2 _).set (H.both x0 x1).2 _
theorem RowI.fits {Q:Int->Prop}{N:Nat}{cs:List Value}{n:Nat}(H:RowI Q N cs n){i:Int}(h0:0<=i)(h1:i<n):(i.toNat+1<=cs.length)=True:=eq_true (by have:=H.len; omega)
theorem RowI.ix {Q:Int->Prop}{N:Nat}{cs:List Value}{n:Nat}(H:RowI Q N cs n){i:Int}(h0:0<=i:=by omega)(h1:i<n:=by omega):((0<=i)=True)/\((i<(n:Int))=True)/\cs[i.toNat]?=some (.int .i64 (iv cs i))/\(i.toNat+1<=cs.length)=True:=⟨eq_true h0,eq_true h1,H.get h0 h1,H.fits h0 h1⟩
theorem RowI.ints {Q:Int->Prop}{N:Nat}{cs:List Value}{n:Nat}(H:RowI Q N cs n):∃xs,cs=ints xs/\xs.length=N/\∀j,j<n->Q (xs.getD j 0):=by
 have h1:=H.tot;have h2:=H.len
 have e:cs=Ab.ints ((List.range N).map fun j:Nat=>iv cs j):=by
  apply List.ext_getElem?;intro i
  by_cases hi:i<N
  ·obtain⟨x,ex⟩:=H.all i hi;have:iv cs i=x:=by unfold iv; rw[Int.toNat_natCast,ex]
   rw[ex];simp[Ab.ints,hi,this]
  ·rw[List.getElem?_eq_none (by omega),List.getElem?_eq_none (by simp[Ab.ints]; omega)]
 refine⟨_,e,by simp,fun j hj=>?_⟩;have:=(H.both (i:=j) (by omega) (by omega)).2;simpa[List.getD_eq_getElem?_getD,show j<N by omega] using this
def pv (cs:List Value)(i:Int)(k:Nat):Int:=match cs[i.toNat*3+k]? with
 | some (.int _ x)=>x
 | _=>0
structure RowT (Q:Int->Int->Int->Prop)(cs:List Value)(n:Nat):Prop where
 len:n*3<=cs.length
 el:∀j,j<n->∃a b c,cs[j*3]?=some (.int .i64 a)/\cs[j*3+1]?=some (.int .i64 b)/\cs[j*3+2]?=some (.int .i64 c)/\Q a b c
theorem take3 {cs:List Value}{o:Nat}{a b c:Value}(h0:cs[o]?=some a)(h1:cs[o+1]?=some b)(h2:cs[o+2]?=some c):(cs.drop o).take 3=[a,b,c]:=by
 apply List.ext_getElem?;intro i;rw[List.getElem?_take]
 match i with
 | 0=>simp[h0]
 | 1=>simp[h1]
 | 2=>simp[h2]
 | i+3=>rw[if_neg (by omega)]; simp
theorem RowT.both {Q:Int->Int->Int->Prop}{cs:List Value}{n:Nat}(H:RowT Q cs n){i:Int}(h0:0<=i)(h1:i<n):(cs.drop (i.toNat*3)).take 3=[.int .i64 (pv cs i 0),.int .i64 (pv cs i 1),.int .i64 (pv cs i 2)]/\Q (pv cs i 0) (pv cs i 1) (pv cs i 2):=by
 obtain⟨a,b,c,e0,e1,e2,q⟩:=H.el i.toNat (by omega);have k0:pv cs i 0=a:=by unfold pv; rw[Nat.add_zero,e0]
 have k1:pv cs i 1=b:=by unfold pv; rw[e1]
 have k2:pv cs i 2=c:=by unfold pv; rw[e2]
 rw[k0,k1,k2];exact⟨take3 e0 e1 e2,q⟩
theorem RowT.get {Q:Int->Int->Int->Prop}{cs:List Value}{n:Nat}(H:RowT Q cs n){i:Int}(h0:0<=i)(h1:i<n):(cs.drop (i.toNat*3)).take 3=[.int .i64 (pv cs i 0),.int .i64 (pv cs i 1),.int .i64 (pv cs i 2)]:=(H.both h0 h1).1
theorem RowT.set {Q:Int->Int->Int->Prop}{cs:List Value}{n:Nat}(H:RowT Q cs n){a b c:Int}(hx:Q a b c){k:Nat}(hk:k<n):RowT Q (((cs.set (k*3) (.int .i64 a)).set (k*3+1) (.int .i64 b)).set (k*3+1+1) (.int .i64 c)) n:=by
 have hl:=H.len;refine⟨by simpa using H.len,fun j hj=>?_⟩
 by_cases e:k=j
 ·subst e;refine⟨a,b,c,?_,?_,?_,hx⟩
  ·rw[List.getElem?_set_ne (by omega),List.getElem?_set_ne (by omega),List.getElem?_set_self (by omega)]
  ·rw[List.getElem?_set_ne (by omega),List.getElem?_set_self (by simp; omega)]
  ·rw[List.getElem?_set_self (by simp; omega)]
 ·obtain⟨a',b',c',e0,e1,e2,q⟩:=H.el j hj;refine⟨a',b',c',?_,?_,?_,q⟩
  ·rw[List.getElem?_set_ne (by omega),List.getElem?_set_ne (by omega),List.getElem?_set_ne (by omega)]; exact e0
  ·rw[List.getElem?_set_ne (by omega),List.getElem?_set_ne (by omega),List.getElem?_set_ne (by omega)]; exact e1
  ·rw[List.getElem?_set_ne (by omega),List.getElem?_set_ne (by omega),List.getElem?_set_ne (by omega)]; exact e2
theorem RowT.swap {Q:Int->Int->Int->Prop}{cs:List Value}{n:Nat}(H:RowT Q cs n){x y:Int}(x0:0<=x:=by omega)(x1:x<n:=by omega)(y0:0<=y:=by omega)(y1:y<n:=by omega) :
  RowT Q ((((((cs.set (x.toNat*3) (.int .i64 (pv cs y 0))).set (x.toNat*3+1) (.int .i64 (pv cs y 1))).set (x.toNat*3+1+1) (.int .i64 (pv cs y 2))).set (y.toNat*3) (.int .i64 (pv cs x 0))).set (y.toNat*3+1) (.int .i64 (pv cs x 1))).set (y.toNat*3+1+1) (.int .i64 (pv cs x 2))) n :=
 (H.set (H.both y0 y1).2 (by omega)).set (H.both x0 x1).2 (by omega)
theorem RowT.fits {Q:Int->Int->Int->Prop}{cs:List Value}{n:Nat}(H:RowT Q cs n){i:Int}(h0:0<=i)(h1:i<n):(i.toNat*3+3<=cs.length)=True:=eq_true (by have:=H.len; omega)
theorem RowT.ix {Q:Int->Int->Int->Prop}{cs:List Value}{n:Nat}(H:RowT Q cs n){i:Int}(h0:0<=i:=by omega)(h1:i<n:=by omega):((0<=i)=True)/\((i<(n:Int))=True)/\(cs.drop (i.toNat*3)).take 3=[.int .i64 (pv cs i 0),.int .i64 (pv cs i 1),.int .i64 (pv cs i 2)]/\(i.toNat*3+3<=cs.length)=True:=⟨eq_true h0,eq_true h1,H.get h0 h1,H.fits h0 h1⟩
def midP (Q:Fr->Hp->Prop)(P:AX->Fr->Hp->Prop)(x:AX)(f:Fr)(h:Hp):Prop:=match x with
 | .norm=>Q f h
 | x=>P x f h
theorem midP_norm {Q:Fr->Hp->Prop}{P:AX->Fr->Hp->Prop}{f:Fr}{h:Hp}:midP Q P .norm f h=Q f h:=rfl
theorem midP_ret {Q:Fr->Hp->Prop}{P:AX->Fr->Hp->Prop}{f:Fr}{h:Hp}:midP Q P .ret f h=P .ret f h:=rfl
theorem midP_exit {Q:Fr->Hp->Prop}{P:AX->Fr->Hp->Prop}{f:Fr}{h:Hp}{i:Nat}:midP Q P (.exit i) f h=P (.exit i) f h:=rfl
attribute [push_cast] midP_norm midP_ret midP_exit
theorem post_mid {E:Env}(hM:EnvMono E){lim:Nat}{a b:AC}{f:Fr}{h:Hp}{P:AX->Fr->Hp->Prop}(Q:Fr->Hp->Prop)(h1:Post (evK E lim a f h) (midP Q P))(h2:∀f h,Q f h->Post (evK E lim b f h) P):Post (evK E lim (.seq a b) f h) P:=by
 rw[evK_seq' hM,post_seqK];refine h1.mono fun x f h hp=>?_;cases x with
 | norm=>exact h2 f h hp
 | exit i=>exact hp
 | ret=>exact hp
theorem post_blk {E:Env}(hM:EnvMono E){lim id:Nat}{a:AC}{f:Fr}{h:Hp}{P:AX->Fr->Hp->Prop}(h1:Post (evK E lim a f h) (blkP id P)):Post (evK E lim (.block id a) f h) P:=by
 rw[evK_block hM,post_blockK];exact h1
def LenOk (E:Env):Prop:=∀(lim:Nat) (h:Hp) (n:Int),0<=n->n<1000000->∃k:Nat,evI E lim (.func 167) [.int .u64 n] h=some (.int .i64 k,h)/\k<=62/\(1<=n->((2 ^ k:Nat):Int)<=2*n)
end
section
open Tb
def orF (x y z:Int):Int:=if x=0 then(if y=0 then z else y) else x
def ordF (a b c d e f:Int):Int:=orF (cmpF a d) (cmpF b e) (cmpF c f)
variable {E:Env}(hE:EnvT E){lim:Nat}{h:Hp}
include hE
theorem c277 {sb:Nat}{r:Int}(hs:h[sb]?=some (.cells true [.int .u64 r])):PostV (evI E lim (.func 277) [.pointer (some ⟨sb,0,none⟩)] h) fun v h'=>∃r',v=.int .u64 r'/\h'=h.set sb (.cells true [.int .u64 r']):=by
 have hl:=lt_of_get hs;rw[hE.fn T277]; simp only[push_cast,ac277,hs,set_get hl,take_set,simprocAttr];exact⟨_,rfl,rfl⟩
theorem c276 (hLn:LenOk E){n:Int}(h0:1<=n)(h1:n<1000000):∃m:Int,evI E lim (.func 276) [.int .i64 n] h=some (.int .u64 m,h)/\1<=m/\m<=2*n:=by
 obtain⟨k,e,k1,k2⟩:=hLn h.length h n (by omega) h1;have hk:=k2 h0;obtain⟨q,hq⟩:∃q:Nat,2 ^ k=q:=⟨_,rfl⟩;have hp:1<=2 ^ k:=Nat.one_le_two_pow;have w1:IntKind.u64.wrap n=n:=by simp only[IntKind.wrap,IntKind.bits,IntKind.signed]; simp; omega
 have c1:((k:Int)<0)=False:=eq_false (by omega);have c2:min (k:Int).toNat 64=k:=by simp; omega
 have c3:(1:Int)*2 ^ k=(q:Int):=by rw[<- hq]; simp
 have c4:IntKind.u64.wrap (q:Int)=(q:Int):=by
  rw[hq] at hk;simp only[IntKind.wrap,IntKind.bits,IntKind.signed]; simp; omega
 refine⟨(q:Int),?_,by omega,by omega⟩;have c5:min k 64=k:=by omega
 rw[hE.fn T276]; simp only[push_cast,ac276,w1,e,c1,c2,c3,c4,c5,simprocAttr]
omit hE in
theorem and_le (x:Int) {y:Int} (h0:0<=y) (h1:y<9223372036854775808):0<=IntKind.u64.wrap ((BitVec.ofInt 64 x&&&BitVec.ofInt 64 y).toNat:Int)/\IntKind.u64.wrap ((BitVec.ofInt 64 x&&&BitVec.ofInt 64 y).toNat:Int)<=y:=by
 have hy:(BitVec.ofInt 64 y).toNat=y.toNat:=by
  rw[BitVec.toNat_ofInt]; omega
 have hle:(BitVec.ofInt 64 x&&&BitVec.ofInt 64 y).toNat<=y.toNat:=by
  rw[BitVec.toNat_and,hy]; exact Nat.and_le_right
 generalize (BitVec.ofInt 64 x&&&BitVec.ofInt 64 y).toNat=q at *;have:IntKind.u64.wrap (q:Int)=q:=by simp only[IntKind.wrap,IntKind.bits,IntKind.signed]; simp; omega
 rw[this];omega
theorem c168 {b:Nat}{x y z:Int}(hb:h[b]?=some (.cells true [.int .i64 x,.int .i64 y,.int .i64 z])):evI E lim (.func 168) [.slice (some ⟨b,0,none⟩) 3 1] h=some (.int .i64 (orF x y z),h):=by
 have w1:IntKind.i64.wrap 1=1:=wrap64 (by omega) (by omega);have w2:IntKind.i64.wrap 2=2:=wrap64 (by omega) (by omega);have w3:IntKind.i64.wrap 3=3:=wrap64 (by omega) (by omega)
 by_cases h0:x=0
 ·by_cases h1:y=0
  ·by_cases h2:z=0
   ·subst h0 h1 h2;rw[hE.fn T168]; simp only[push_cast,ac168,evK_loop' hE.mono,lp168_0,hb,w1,w2,w3,simprocAttr];simp[orF]
   ·subst h0 h1;have e:(z==0)=false:=by simpa using h2
    rw[hE.fn T168]; simp only[push_cast,ac168,evK_loop' hE.mono,lp168_0,hb,w1,w2,w3,e,simprocAttr];simp[orF]
  ·subst h0;have e:(y==0)=false:=by simpa using h1
   rw[hE.fn T168]; simp only[push_cast,ac168,evK_loop' hE.mono,lp168_0,hb,w1,w2,w3,e,simprocAttr];simp[orF,h1]
 ·have e:(x==0)=false:=by simpa using h0
  rw[hE.fn T168]; simp only[push_cast,ac168,evK_loop' hE.mono,lp168_0,hb,w1,w2,w3,e,simprocAttr];simp[orF,h0]
theorem c108 (a b c d e f:Int):evI E lim (.func 108) [.agg #[.int .i64 a,.int .i64 b,.int .i64 c],.agg #[.int .i64 d,.int .i64 e,.int .i64 f]] h=some (.int .i64 (ordF a b c d e f),h):=by
 have e168:=c168 hE (lim:=h.length) (h:=h++[.cells true [.int .i64 a,.int .i64 b,.int .i64 c],.cells true [.int .i64 d,.int .i64 e,.int .i64 f],.cells true [.int .i64 (cmpF a d),.int .i64 (cmpF b e),.int .i64 (cmpF c f)]]) (b:=h.length+1+1) (by rw[Nat.add_assoc,get_app]; rfl);rw[hE.fn T108]; simp only[push_cast,ac108,c169 hE,e168,Nat.add_assoc,simprocAttr];rfl
theorem c311 {b sb n:Nat}{cs:List Value}{Q:Int->Int->Int->Prop}(hb:h[b]?=some (.cells true cs))(H:RowT Q cs n){a c s:Int}(a0:0<=a)(a1:a<n)(c0:0<=c)(c1:c<n)(hs:h[sb]?=some (.cells true [.int .i64 s])) :
  PostV (evI E lim (.func 311) [.slice (some ⟨b,0,none⟩) n 3,.int .i64 a,.int .i64 c,.pointer (some ⟨sb,0,none⟩),.func (.func 108) #[] #[]] h) fun v h'=>∃(s' x y:Int),v=.tuple #[.int .i64 x,.int .i64 y]/\h'=h.set sb (.cells true [.int .i64 s'])/\(x=a\/x=c)/\(y=a\/y=c):=by
 obtain⟨iaa,iab,iag,ias⟩:=H.ix (i:=a);obtain⟨ica,icb,icg,ics⟩:=H.ix (i:=c);cases hl:decide (ordF (pv cs (c) 0) (pv cs (c) 1) (pv cs (c) 2) (pv cs (a) 0) (pv cs (a) 1) (pv cs (a) 2)<0) with
 | true =>
  rw[hE.fn T311]; simp only[push_cast,ac311,hb,hs,iaa,iab,iag,ias,ica,icb,icg,ics,c108 hE,hl,Nat.mul_one,take_set,simprocAttr];exact⟨_,c,a,rfl,rfl,.inr rfl,.inl rfl⟩
 | false =>
  rw[hE.fn T311]; simp only[push_cast,ac311,hb,hs,iaa,iab,iag,ias,ica,icb,icg,ics,c108 hE,hl,Nat.mul_one,simprocAttr];exact⟨s,a,c,rfl,(set_same hs).symm,.inl rfl,.inr rfl⟩
theorem c279 {b sb n:Nat}{cs:List Value}{Q:Int->Int->Int->Prop}(hb:h[b]?=some (.cells true cs))(H:RowT Q cs n){a c d s:Int}(a0:0<=a)(a1:a<n)(c0:0<=c)(c1:c<n)(d0:0<=d)(d1:d<n)(hne:sb≠b)(hs:h[sb]?=some (.cells true [.int .i64 s])) :
  PostV (evI E lim (.func 279) [.slice (some ⟨b,0,none⟩) n 3,.int .i64 a,.int .i64 c,.int .i64 d,.pointer (some ⟨sb,0,none⟩),.func (.func 108) #[] #[]] h) fun v h'=>∃(s' x:Int),v=.int .i64 x/\h'=h.set sb (.cells true [.int .i64 s'])/\(x=a\/x=c\/x=d):=by
 have hb':∀X,(h.set sb X)[b]?=some (.cells true cs):=fun X=>by rw[set_ne hne]; exact hb
 have hs':∀X,(h.set sb X)[sb]?=some X:=fun X=>set_get (lt_of_get hs);obtain⟨v1,h1,e1,s1,x1,y1,rfl,rfl,p1,q1⟩:=(c311 hE (lim:=h.length) hb H a0 a1 c0 c1 hs).out;obtain⟨v2,h2,e2,s2,x2,y2,rfl,rfl,p2,q2⟩:=(c311 hE (lim:=h.length) (hb' _) H (s:=s1) (a:=y1) (c:=d) (by omega) (by omega) d0 d1 (hs' _)).out;rw[List.set_set] at e2;obtain⟨v3,h3,e3,s3,x3,y3,rfl,rfl,p3,q3⟩:=(c311 hE (lim:=h.length) (hb' _) H (s:=s2) (a:=x1) (c:=x2) (by omega) (by omega) (by omega) (by omega) (hs' _)).out;rw[List.set_set] at e3;rw[hE.fn T279]; simp only[push_cast,ac279,e1,e2,e3,take_set,simprocAttr];exact⟨_,y3,rfl,rfl,by omega⟩
theorem c278 {b sb n:Nat}{cs:List Value}{Q:Int->Int->Int->Prop}(hb:h[b]?=some (.cells true cs))(H:RowT Q cs n)(hn:n<1000000){a s:Int}(a0:1<=a)(a1:a+1<n)(hne:sb≠b)(hs:h[sb]?=some (.cells true [.int .i64 s])) :
  PostV (evI E lim (.func 278) [.slice (some ⟨b,0,none⟩) n 3,.int .i64 a,.pointer (some ⟨sb,0,none⟩),.func (.func 108) #[] #[]] h) fun v h'=>∃(s' x:Int),v=.int .i64 x/\h'=h.set sb (.cells true [.int .i64 s'])/\a-1<=x/\x<=a+1:=by
 obtain⟨v1,h1,e1,s1,x1,rfl,rfl,p1⟩:=(c279 hE (lim:=h.length) hb H (a:=a-1) (c:=a) (d:=a+1) (by omega) (by omega) (by omega) (by omega) (by omega) (by omega) hne hs).out;have w1:=w64 (x:=a-1);have w2:=w64 (x:=a+1);rw[hE.fn T278]; simp only[push_cast,ac278,w1,w2,e1,take_set,simprocAttr];exact⟨_,x1,rfl,rfl,by omega,by omega⟩
theorem c234 {b n:Nat}{cs:List Value}{Q:Int->Int->Int->Prop}(hb:h[b]?=some (.cells true cs))(H:RowT Q cs n)(hn:n<1000000){a e:Int}(a0:0<=a)(hae:a<e)(he:e<=n) :
  PostV (evI E lim (.func 234) [.slice (some ⟨b,0,none⟩) n 3,.int .i64 a,.int .i64 e,.func (.func 108) #[] #[]] h) fun v h'=>h'=h/\∃p k:Int,v=.tuple #[.int .i64 p,.int .i64 k]/\a<=p/\p<e:=by
 have w0:=w64 (x:=e-a);have wq:IntKind.i64.wrap ((e-a).tdiv 4)=(e-a)/4:=by rw[Int.tdiv_eq_ediv_of_nonneg (by omega)]; exact wrap64 (by omega) (by omega)
 have w1:IntKind.i64.wrap ((e-a)/4*1)=(e-a)/4:=by rw[Int.mul_one]; exact wrap64 (by omega) (by omega)
 have w2:=w64 (x:=(e-a)/4*2);have w3:=w64 (x:=(e-a)/4*3);have w4:=w64 (x:=a+(e-a)/4);have w5:=w64 (x:=a+(e-a)/4*2);have w6:=w64 (x:=a+(e-a)/4*3);have hlb:=lt_of_get hb;have hne:h.length≠b:=by omega
 have hb0:∀l,(h++l)[b]?=some (.cells true cs):=fun l=>get_old hb;have hs0:∀x,(h++[x])[h.length]?=some x:=fun x=>get_app0;have hset:∀x y,(h++[x]).set h.length y=h++[y]:=fun x y=>by rw[set_app0]; rfl
 by_cases l8:(e-a>=8)
 ·by_cases l50:(e-a>=50)
  ·obtain⟨v1,h1,e1,s1,x1,rfl,rfl,p1,q1⟩:=(c278 hE (lim:=h.length) (hb0 [.cells true [.int .i64 0]]) H hn (a:=a+(e-a)/4) (by omega) (by omega) hne (hs0 _)).out;rw[hset] at e1;obtain⟨v2,h2,e2,s2,x2,rfl,rfl,p2,q2⟩:=(c278 hE (lim:=h.length) (hb0 [.cells true [.int .i64 s1]]) H hn (a:=a+(e-a)/4*2) (by omega) (by omega) hne (hs0 _)).out;rw[hset] at e2;obtain⟨v3,h3,e3,s3,x3,rfl,rfl,p3,q3⟩:=(c278 hE (lim:=h.length) (hb0 [.cells true [.int .i64 s2]]) H hn (a:=a+(e-a)/4*3) (by omega) (by omega) hne (hs0 _)).out;rw[hset] at e3;obtain⟨v4,h4,e4,s4,x4,rfl,rfl,p4⟩:=(c279 hE (lim:=h.length) (hb0 [.cells true [.int .i64 s3]]) H (a:=x1) (c:=x2) (d:=x3) (by omega) (by omega) (by omega) (by omega) (by omega) (by omega) hne (hs0 _)).out;rw[hset] at e4;cases k0:(s4==0) with
   | true=>rw[hE.fn T234]; simp only[push_cast,ac234,w0,wq,w1,w2,w3,w4,w5,w6,l8,l50,e1,e2,e3,e4,k0,simprocAttr]
           exact⟨x4,_,rfl,by omega,by omega⟩
   | false =>
    cases k1:(s4==12) with
    | true=>rw[hE.fn T234]; simp only[push_cast,ac234,w0,wq,w1,w2,w3,w4,w5,w6,l8,l50,e1,e2,e3,e4,k0,k1,simprocAttr]
            exact⟨x4,_,rfl,by omega,by omega⟩
    | false=>rw[hE.fn T234]; simp only[push_cast,ac234,w0,wq,w1,w2,w3,w4,w5,w6,l8,l50,e1,e2,e3,e4,k0,k1,simprocAttr]
             exact⟨x4,_,rfl,by omega,by omega⟩
  ·obtain⟨v4,h4,e4,s4,x4,rfl,rfl,p4⟩:=(c279 hE (lim:=h.length) (hb0 [.cells true [.int .i64 0]]) H (a:=a+(e-a)/4) (c:=a+(e-a)/4*2) (d:=a+(e-a)/4*3) (by omega) (by omega) (by omega) (by omega) (by omega) (by omega) hne (hs0 _)).out;rw[hset] at e4;cases k0:(s4==0) with
   | true=>rw[hE.fn T234]; simp only[push_cast,ac234,w0,wq,w1,w2,w3,w4,w5,w6,l8,l50,e4,k0,simprocAttr]
           exact⟨x4,_,rfl,by omega,by omega⟩
   | false =>
    cases k1:(s4==12) with
    | true=>rw[hE.fn T234]; simp only[push_cast,ac234,w0,wq,w1,w2,w3,w4,w5,w6,l8,l50,e4,k0,k1,simprocAttr]
            exact⟨x4,_,rfl,by omega,by omega⟩
    | false=>rw[hE.fn T234]; simp only[push_cast,ac234,w0,wq,w1,w2,w3,w4,w5,w6,l8,l50,e4,k0,k1,simprocAttr]
             exact⟨x4,_,rfl,by omega,by omega⟩
 ·rw[hE.fn T234]; simp only[push_cast,ac234,w0,wq,w1,w2,w3,w4,w5,w6,l8,simprocAttr];exact⟨_,_,rfl,by omega,by omega⟩
theorem c233 (hLn:LenOk E){b n:Nat}{cs:List Value}{Q:Int->Int->Int->Prop}(hb:h[b]?=some (.cells true cs))(H:RowT Q cs n)(hn:n<1000000){a e:Int}(a0:0<=a)(hae:a+8<=e)(he:e<=n) :
  PostV (evI E lim (.func 233) [.slice (some ⟨b,0,none⟩) n 3,.int .i64 a,.int .i64 e,.func (.func 108) #[] #[]] h) fun v h'=>v=undef/\∃cs',h'=h.set b (.cells true cs')/\RowT Q cs' n:=by
 have w0:=w64 (x:=e-a);have wq:IntKind.i64.wrap ((e-a).tdiv 4)=(e-a)/4:=by rw[Int.tdiv_eq_ediv_of_nonneg (by omega)]; exact wrap64 (by omega) (by omega)
 have w2:=w64 (x:=(e-a)/4*2);have w5:=w64 (x:=a+(e-a)/4*2);have w6:=w64 (x:=a+(e-a)/4*2-1);have w7:=w64 (x:=a+(e-a)/4*2+1);have wu:IntKind.u64.wrap (e-a)=e-a:=by simp only[IntKind.wrap,IntKind.bits,IntKind.signed]; simp; omega
 obtain⟨m,em,m1,m2⟩:=c276 hE hLn (lim:=h.length) (h:=h++[.cells true [.int .u64 (e-a)]]) (n:=e-a) (by omega) (by omega);have hlb:=lt_of_get hb;have l8:(e-a>=8)=True:=eq_true (by omega);rw[hE.fn T233]; simp only[push_cast,ac233,w0,wu,em,wq,w2,w5,w6,l8,simprocAttr];refine loop_post hE.mono (fun q g W=>∃(i r:Int) (cs':List Value),a+(e-a)/4*2-1<=i/\i<=a+(e-a)/4*2+2/\RowT Q cs' n/\W=h.set b (.cells true cs')++[.cells true [.int .u64 r]]/\g.rd 0=.slice (some ⟨b,0,none⟩) n 3/\g.rd 1=.int .i64 a/\g.rd 8=.int .i64 (e-a)/\g.rd 9=.pointer (some ⟨h.length,0,none⟩)/\g.rd 10=.int .u64 m/\g.rd 11=.int .i64 i/\(a+(e-a)/4*2+2-i).toNat=q) ?_ _ _ _ ⟨a+(e-a)/4*2-1,_,cs,by omega,by omega,H,by rw[set_same hb],rfl,rfl,rfl,rfl,rfl,rfl,rfl⟩;rintro q g W ⟨i,r,cs',i1,i2,H',rfl,g0,g1,g6,g7,g8,g9,hq⟩
 by_cases hle:i<=a+(e-a)/4*2+1
 ·obtain⟨v1,h1,e1,r',rfl,rfl⟩:=(c277 hE (lim:=h.length) (h:=h.set b (.cells true cs')++[.cells true [.int .u64 r]]) (sb:=h.length) (r:=r) (get_appC0 (by simp))).out;rw[set_appC0 (by simp),List.set_cons_zero] at e1;obtain⟨o1,o2⟩:=and_le r' (y:=m-1) (by omega) (by omega);have wm:IntKind.u64.wrap (m-1)=m-1:=by simp only[IntKind.wrap,IntKind.bits,IntKind.signed]; simp; omega
  obtain⟨u,hu⟩:∃u,IntKind.u64.wrap ((@HAnd.hAnd (BitVec 64) (BitVec 64) (BitVec 64) (@instHAndOfAndOp (BitVec IntKind.u64.bits) (@BitVec.instAndOp IntKind.u64.bits)) (BitVec.ofInt 64 r') (BitVec.ofInt 64 (m-1))).toNat:Int)=u:=⟨_,rfl⟩;replace o1:0<=u:=by rw[<- hu]; exact o1
  replace o2:u<=m-1:=by rw[<- hu]; exact o2
  have wu1:IntKind.i64.wrap u=u:=wrap64 (by omega) (by omega);have w8:=w64 (x:=i+1);have k1:(h.set b (.cells true cs')++[Blk.cells true [.int .u64 r']])[b]?=some (.cells true cs'):=get_old (set_get hlb);have k2:∀x l,(h.set b (.cells true cs')++l).set b x=h.set b x++l:=fun x l=>by rw[set_old (by simpa using hlb),List.set_set]
  have k3:∀x l,(h.set b x++l)[b]?=some x:=fun x l=>get_old (set_get hlb);have k4:∀x y l,(h.set b y++l).set b x=h.set b x++l:=fun x y l=>by rw[set_old (by simpa using hlb),List.set_set]
  by_cases hge:u>=e-a
  ·have w9:=w64 (x:=u-(e-a));have w10:=w64 (x:=a+(u-(e-a)));obtain⟨iia,iib,iig,iis⟩:=H'.ix (i:=i);obtain⟨ija,ijb,ijg,ijs⟩:=H'.ix (i:=(a+(u-(e-a))));simp only[push_cast,lp233_0,g0,g1,g6,g7,g8,g9,wq,w2,w5,w7,hle,e1,wm,hu,wu1,hge,w9,w10,iia,iib,iig,iis,ija,ijb,ijg,ijs,k3,k4,Nat.mul_one,w8,simprocAttr];exact⟨_,(by omega:(a+(e-a)/4*2+2-(i+1)).toNat<q),i+1,r',_,by omega,by omega,H'.swap (x:=i) (y:=a+(u-(e-a))),rfl,rfl,rfl⟩
  ·have w10:=w64 (x:=a+u);obtain⟨iia,iib,iig,iis⟩:=H'.ix (i:=i);obtain⟨ija,ijb,ijg,ijs⟩:=H'.ix (i:=(a+u));simp only[push_cast,lp233_0,g0,g1,g6,g7,g8,g9,wq,w2,w5,w7,hle,e1,wm,hu,wu1,hge,w10,iia,iib,iig,iis,ija,ijb,ijg,ijs,k3,k4,Nat.mul_one,w8,simprocAttr];exact⟨_,(by omega:(a+(e-a)/4*2+2-(i+1)).toNat<q),i+1,r',_,by omega,by omega,H'.swap (x:=i) (y:=a+u),rfl,rfl,rfl⟩
 ·have tk:∀x,(h.set b x++[Blk.cells true [.int .u64 r]]).take h.length=h.set b x:=fun x=>take_appC (by simp);simp only[push_cast,lp233_0,g1,g6,g9,wq,w2,w5,w7,hle,tk,simprocAttr];exact⟨by first | rfl | trivial,cs',rfl,H'⟩
theorem c235 {b n:Nat}{cs:List Value}{Q:Int->Int->Int->Prop}(hb:h[b]?=some (.cells true cs))(H:RowT Q cs n)(hn:n<1000000){a e:Int}(a0:0<=a)(hae:a<=e)(he:e<=n) :
  PostV (evI E lim (.func 235) [.slice (some ⟨b,0,none⟩) n 3,.int .i64 a,.int .i64 e,.func (.func 108) #[] #[]] h) fun v h'=>v=undef/\∃cs',h'=h.set b (.cells true cs')/\RowT Q cs' n:=by
 have hlb:=lt_of_get hb;have w1:=w64 (x:=e-1);rw[hE.fn T235]; simp only[push_cast,ac235,w1,simprocAttr];refine loop_post hE.mono (fun q g W=>∃(i j:Int) (cs':List Value),0<=i/\i<=n/\-1<=j/\j<n/\RowT Q cs' n/\W=h.set b (.cells true cs')/\g.rd 0=.slice (some ⟨b,0,none⟩) n 3/\g.rd 8=.int .i64 i/\g.rd 9=.int .i64 j/\(j-i).toNat=q) ?_ _ _ _ ⟨a,e-1,cs,by omega,by omega,by omega,by omega,H,(set_same hb).symm,rfl,rfl,rfl,rfl⟩;rintro q g W ⟨i,j,cs',i1,i2,j1,j2,H',rfl,g0,g6,g7,hq⟩
 by_cases hlt:i<j
 ·have w2:=w64 (x:=i+1);have w3:=w64 (x:=j-1);obtain⟨iia,iib,iig,iis⟩:=H'.ix (i:=i);obtain⟨ija,ijb,ijg,ijs⟩:=H'.ix (i:=j);simp only[push_cast,lp235_0,g0,g6,g7,hlt,w2,w3,iia,iib,iig,iis,ija,ijb,ijg,ijs,set_get hlb,Nat.mul_one,simprocAttr];exact⟨_,(by omega:(j-1-(i+1)).toNat<q),i+1,j-1,_,by omega,by omega,by omega,by omega,H'.swap (x:=i) (y:=j),rfl,rfl,rfl,rfl⟩
 ·simp only[push_cast,lp235_0,g6,g7,hlt,take_set,simprocAttr];exact⟨by first | rfl | trivial,cs',rfl,H'⟩
theorem ins231 {b n:Nat}(hlb:b<h.length)(hn:n<1000000){Q:Int->Int->Int->Prop}{cs:List Value}(H:RowT Q cs n){a j:Int}{v2 v6:Value}(a0:0<=a)(hj:a<=j)(hjn:j<n){f:Fr}(f0:f.rd 0=.slice (some ⟨b,0,none⟩) n 3)(f1:f.rd 1=.int .i64 a)(f2:f.rd 2=v2)(f3:f.rd 3=.func (.func 108) #[] #[])(f6:f.rd 8=v6)(f7:f.rd 9=.int .i64 j){P:AX->Fr->Hp->Prop}
  (hP:∀(f':Fr) cs',RowT Q cs' n->f'.rd 0=.slice (some ⟨b,0,none⟩) n 3->f'.rd 1=.int .i64 a->f'.rd 2=v2->f'.rd 3=.func (.func 108) #[] #[]->f'.rd 8=v6->P (.exit 2) f' (h.set b (.cells true cs'))):Post (evK E lim (.loop lp231_0) f (h.set b (.cells true cs))) P:=by
 refine loop_post hE.mono (fun q g W=>∃(j:Int) (cs':List Value),a<=j/\j<n/\RowT Q cs' n/\W=h.set b (.cells true cs')/\g.rd 0=.slice (some ⟨b,0,none⟩) n 3/\g.rd 1=.int .i64 a/\g.rd 2=v2/\g.rd 3=.func (.func 108) #[] #[]/\g.rd 8=v6/\g.rd 9=.int .i64 j/\j.toNat=q) ?_ _ _ _ ⟨j,cs,hj,hjn,H,rfl,f0,f1,f2,f3,f6,f7,rfl⟩;rintro q g W ⟨j,cs',j1,j2,H',rfl,g0,g1,g2,g3,g6,g7,hq⟩
 by_cases hgt:j>a
 ·have w1:=w64 (x:=j-1);obtain⟨iia,iib,iig,iis⟩:=H'.ix (i:=j);obtain⟨ija,ijb,ijg,ijs⟩:=H'.ix (i:=(j-1));cases hl:decide (ordF (pv cs' (j) 0) (pv cs' (j) 1) (pv cs' (j) 2) (pv cs' (j-1) 0) (pv cs' (j-1) 1) (pv cs' (j-1) 2)<0) with
  | true =>
   simp only[push_cast,lp231_0,g0,g1,g2,g3,g6,g7,hgt,w1,iia,iib,iig,iis,ija,ijb,ijg,ijs,c108 hE,hl,set_get hlb,Nat.mul_one,simprocAttr];exact⟨_,(by omega:(j-1).toNat<q),j-1,_,by omega,by omega,H'.swap (x:=j) (y:=j-1),rfl,rfl,rfl⟩
  | false =>
   simp only[push_cast,lp231_0,g0,g1,g2,g3,g6,g7,hgt,w1,iia,iib,iig,iis,ija,ijb,ijg,ijs,c108 hE,hl,set_get hlb,Nat.mul_one,simprocAttr];refine hP _ cs' H' ?_ ?_ ?_ ?_ ?_<;>simp only[push_cast,g0,g1,g2,g3,g6,simprocAttr]
 ·simp only[push_cast,lp231_0,g0,g1,g2,g3,g6,g7,hgt,simprocAttr];refine hP _ cs' H' ?_ ?_ ?_ ?_ ?_<;>simp only[push_cast,g0,g1,g2,g3,g6,simprocAttr]
theorem c231 {b n:Nat}{cs:List Value}{Q:Int->Int->Int->Prop}(hb:h[b]?=some (.cells true cs))(H:RowT Q cs n)(hn:n<1000000){a e:Int}(a0:0<=a)(hae:a<=e)(he:e<=n) :
  PostV (evI E lim (.func 231) [.slice (some ⟨b,0,none⟩) n 3,.int .i64 a,.int .i64 e,.func (.func 108) #[] #[]] h) fun v h'=>v=undef/\∃cs',h'=h.set b (.cells true cs')/\RowT Q cs' n:=by
 have hlb:=lt_of_get hb;have w1:=w64 (x:=a+1);rw[hE.fn T231]; simp only[push_cast,ac231,w1,simprocAttr];refine loop_post hE.mono (fun q g W=>∃(i:Int) (cs':List Value),a+1<=i/\i<=n+1/\RowT Q cs' n/\W=h.set b (.cells true cs')/\g.rd 0=.slice (some ⟨b,0,none⟩) n 3/\g.rd 1=.int .i64 a/\g.rd 2=.int .i64 e/\g.rd 3=.func (.func 108) #[] #[]/\g.rd 8=.int .i64 i/\(e-i).toNat=q) ?_ _ _ _ ⟨a+1,cs,by omega,by omega,H,(set_same hb).symm,rfl,rfl,rfl,rfl,rfl,rfl⟩;rintro q g W ⟨i,cs',i1,i2,H',rfl,g0,g1,g2,g3,g6,hq⟩
 by_cases hlt:i<e
 ·simp only[push_cast,lp231_1,g0,g1,g2,g3,g6,hlt,simprocAttr];refine ins231 hE hlb hn H' a0 (j:=i) (by omega) (by omega) (v2:=.int .i64 e) (v6:=.int .i64 i) (by simp[g0]) (by simp[g1]) (by simp[g2]) (by simp[g3]) (by simp[g6]) (by simp) ?_;intro f' cs2 H2 q0 q1 q2 q3 q6;have w2:=w64 (x:=i+1);simp only[push_cast,q0,q1,q2,q3,q6,w2,simprocAttr];exact⟨_,(by omega:(e-(i+1)).toNat<q),i+1,cs2,by omega,by omega,H2,rfl,rfl,rfl⟩
 ·simp only[push_cast,lp231_1,g0,g1,g2,g6,hlt,take_set,simprocAttr];exact⟨by first | rfl | trivial,cs',rfl,H'⟩
theorem c275 {b n:Nat}{cs:List Value}{Q:Int->Int->Int->Prop}(hb:h[b]?=some (.cells true cs))(H:RowT Q cs n)(hn:n<1000000){lo hi fi:Int}(l0:0<=lo)(l1:lo<1000000)(h0:0<=hi)(f0:0<=fi)(hf:fi+hi<=n) :
  PostV (evI E lim (.func 275) [.slice (some ⟨b,0,none⟩) n 3,.int .i64 lo,.int .i64 hi,.int .i64 fi,.func (.func 108) #[] #[]] h) fun v h'=>v=undef/\∃cs',h'=h.set b (.cells true cs')/\RowT Q cs' n:=by
 have hlb:=lt_of_get hb;rw[hE.fn T275]; simp only[push_cast,ac275,simprocAttr];refine loop_post hE.mono (fun q g W=>∃(r:Int) (cs':List Value),0<=r/\r<1000000/\RowT Q cs' n/\W=h.set b (.cells true cs')/\g.rd 0=.slice (some ⟨b,0,none⟩) n 3/\g.rd 2=.int .i64 hi/\g.rd 3=.int .i64 fi/\g.rd 4=.func (.func 108) #[] #[]/\g.rd 10=.int .i64 r/\(1000000-r).toNat=q) ?_ _ _ _ ⟨lo,cs,by omega,by omega,H,(set_same hb).symm,rfl,rfl,rfl,rfl,rfl,rfl⟩;rintro q g W ⟨r,cs',r1,r2,H',rfl,g0,g2,g3,g4,g8,hq⟩;have w1:=w64 (x:=2*r);obtain⟨c,hc⟩:∃c,2*r+1=c:=⟨_,rfl⟩;have w2:IntKind.i64.wrap (2*r+1)=c:=by rw[hc]; exact wrap64 (by omega) (by omega)
 by_cases hge:c>=hi
 ·simp only[push_cast,lp275_0,g0,g2,g3,g4,g8,w1,w2,hge,take_set,simprocAttr];exact⟨by first | rfl | trivial,cs',rfl,H'⟩
 ·have w3:=w64 (x:=c+1);have w4:=w64 (x:=fi+c);have w5:=w64 (x:=fi+c+1);have w6:=w64 (x:=fi+r);obtain⟨ira,irb,irg,irs⟩:=H'.ix (i:=(fi+r));obtain⟨ica,icb,icg,ics⟩:=H'.ix (i:=(fi+c))
  by_cases h2:c+1<hi
  ·skip
   obtain⟨ida,idb,idg,ids⟩:=H'.ix (i:=(fi+c+1));have w7:=w64 (x:=fi+(c+1));obtain⟨iea,ieb,ieg,ies⟩:=H'.ix (i:=(fi+(c+1)));cases hl:decide (ordF (pv cs' (fi+c) 0) (pv cs' (fi+c) 1) (pv cs' (fi+c) 2) (pv cs' (fi+c+1) 0) (pv cs' (fi+c+1) 1) (pv cs' (fi+c+1) 2)<0) with
   | true =>
    cases hk:decide (ordF (pv cs' (fi+r) 0) (pv cs' (fi+r) 1) (pv cs' (fi+r) 2) (pv cs' (fi+(c+1)) 0) (pv cs' (fi+(c+1)) 1) (pv cs' (fi+(c+1)) 2)<0) with
    | true =>
     simp only[push_cast,lp275_0,g0,g2,g3,g4,g8,w1,w2,hge,w3,w4,w5,w6,w7,ira,irb,irg,irs,ica,icb,icg,ics,ida,idb,idg,ids,iea,ieb,ieg,ies,c108 hE,hl,hk,h2,set_get hlb,Nat.mul_one,simprocAttr];exact⟨_,(by omega:(1000000-(c+1)).toNat<q),c+1,_,by omega,by omega,H'.swap (x:=fi+r) (y:=fi+(c+1)),rfl,rfl,rfl⟩
    | false =>
     simp only[push_cast,lp275_0,g0,g2,g3,g4,g8,w1,w2,hge,w3,w4,w5,w6,w7,ira,irb,irg,irs,ica,icb,icg,ics,ida,idb,idg,ids,iea,ieb,ieg,ies,c108 hE,hl,hk,h2,set_get hlb,Nat.mul_one,take_set,simprocAttr];exact⟨by first | rfl | trivial,cs',rfl,H'⟩
   | false =>
    cases hk:decide (ordF (pv cs' (fi+r) 0) (pv cs' (fi+r) 1) (pv cs' (fi+r) 2) (pv cs' (fi+c) 0) (pv cs' (fi+c) 1) (pv cs' (fi+c) 2)<0) with
    | true =>
     simp only[push_cast,lp275_0,g0,g2,g3,g4,g8,w1,w2,hge,w3,w4,w5,w6,ira,irb,irg,irs,ica,icb,icg,ics,ida,idb,idg,ids,c108 hE,hl,hk,h2,set_get hlb,Nat.mul_one,simprocAttr];exact⟨_,(by omega:(1000000-c).toNat<q),c,_,by omega,by omega,H'.swap (x:=fi+r) (y:=fi+c),rfl,rfl,rfl⟩
    | false =>
     simp only[push_cast,lp275_0,g0,g2,g3,g4,g8,w1,w2,hge,w3,w4,w5,w6,ira,irb,irg,irs,ica,icb,icg,ics,ida,idb,idg,ids,c108 hE,hl,hk,h2,set_get hlb,Nat.mul_one,take_set,simprocAttr];exact⟨by first | rfl | trivial,cs',rfl,H'⟩
  ·cases hk:decide (ordF (pv cs' (fi+r) 0) (pv cs' (fi+r) 1) (pv cs' (fi+r) 2) (pv cs' (fi+c) 0) (pv cs' (fi+c) 1) (pv cs' (fi+c) 2)<0) with
   | true =>
    simp only[push_cast,lp275_0,g0,g2,g3,g4,g8,w1,w2,hge,w3,w4,w5,w6,ira,irb,irg,irs,ica,icb,icg,ics,c108 hE,hk,h2,set_get hlb,Nat.mul_one,simprocAttr];exact⟨_,(by omega:(1000000-c).toNat<q),c,_,by omega,by omega,H'.swap (x:=fi+r) (y:=fi+c),rfl,rfl,rfl⟩
   | false =>
    simp only[push_cast,lp275_0,g0,g2,g3,g4,g8,w1,w2,hge,w3,w4,w5,w6,ira,irb,irg,irs,ica,icb,icg,ics,c108 hE,hk,h2,set_get hlb,Nat.mul_one,take_set,simprocAttr];exact⟨by first | rfl | trivial,cs',rfl,H'⟩
theorem c232 {b n:Nat}{cs:List Value}{Q:Int->Int->Int->Prop}(hb:h[b]?=some (.cells true cs))(H:RowT Q cs n)(hn:n<1000000){a e:Int}(a0:0<=a)(hae:a<e)(he:e<=n) :
  PostV (evI E lim (.func 232) [.slice (some ⟨b,0,none⟩) n 3,.int .i64 a,.int .i64 e,.func (.func 108) #[] #[]] h) fun v h'=>v=undef/\∃cs',h'=h.set b (.cells true cs')/\RowT Q cs' n:=by
 have hlb:=lt_of_get hb;have w0:=w64 (x:=e-a);have w1:=w64 (x:=e-a-1);have w2:IntKind.i64.wrap ((e-a-1).tdiv 2)=(e-a-1)/2:=by rw[Int.tdiv_eq_ediv_of_nonneg (by omega)]; exact wrap64 (by omega) (by omega)
 rw[hE.fn T232]; simp only[push_cast,ac232,w0,w1,w2,simprocAttr];refine loop_post hE.mono (fun q g W=>∃(i:Int) (cs':List Value),-1<=i/\i<n/\RowT Q cs' n/\W=h.set b (.cells true cs')/\g.rd 0=.slice (some ⟨b,0,none⟩) n 3/\g.rd 3=.func (.func 108) #[] #[]/\g.rd 8=.int .i64 a/\g.rd 9=.int .i64 0/\g.rd 10=.int .i64 (e-a)/\g.rd 11=.int .i64 i/\(i+1).toNat=q) ?_ _ _ _ ⟨(e-a-1)/2,cs,by omega,by omega,H,(set_same hb).symm,rfl,rfl,rfl,rfl,rfl,rfl,rfl⟩;rintro q g W ⟨i,cs',i1,i2,H',rfl,g0,g3,g6,g7,g8,g9,hq⟩
 by_cases hge:i>=0
 ·obtain⟨v1,h1,e1,rfl,cs2,rfl,H2⟩:=(c275 hE (lim:=h.length) (h:=h.set b (.cells true cs')) (b:=b) (set_get hlb) H' hn (lo:=i) (hi:=e-a) (fi:=a) (by omega) (by omega) (by omega) a0 (by omega)).out;rw[List.set_set] at e1;have w3:=w64 (x:=i-1);simp only[push_cast,lp232_1,g0,g3,g6,g7,g8,g9,hge,e1,w3,simprocAttr];exact⟨_,(by omega:(i-1+1).toNat<q),i-1,cs2,by omega,by omega,H2,rfl,rfl,rfl⟩
 ·simp only[push_cast,lp232_1,g0,g3,g6,g7,g8,g9,hge,w1,simprocAttr];refine loop_post hE.mono (fun q g W=>∃(i:Int) (cs':List Value),-1<=i/\a+i<n/\RowT Q cs' n/\W=h.set b (.cells true cs')/\g.rd 0=.slice (some ⟨b,0,none⟩) n 3/\g.rd 3=.func (.func 108) #[] #[]/\g.rd 8=.int .i64 a/\g.rd 9=.int .i64 0/\g.rd 12=.int .i64 i/\(i+1).toNat=q) ?_ _ _ _ ⟨e-a-1,cs',by omega,by omega,H',rfl,by simp[g0],by simp[g3],by simp[g6],by simp[g7],by simp,rfl⟩;clear g0 g3 g6 g7 g8 g9 hge H' hq i1 i2;rintro q g W ⟨i,cs',i1,i2,H',rfl,g0,g3,g6,g7,g10,hq⟩
  by_cases hge:i>=0
  ·have w3:=w64 (x:=i-1);have w4:=w64 (x:=a+i);obtain⟨iaa,iab,iag,ias⟩:=H'.ix (i:=a);obtain⟨iia,iib,iig,iis⟩:=H'.ix (i:=(a+i));obtain⟨v1,h1,e1,rfl,cs2,rfl,H2⟩:=(c275 hE (lim:=h.length) (h:=h.set b (.cells true _)) (b:=b) (set_get hlb) (H'.swap (x:=a) (y:=a+i)) hn (lo:=0) (hi:=i) (fi:=a) (by omega) (by omega) (by omega) a0 (by omega)).out;rw[List.set_set] at e1;simp only[push_cast,lp232_0,g0,g3,g6,g7,g10,hge,w4,iaa,iab,iag,ias,iia,iib,iig,iis,set_get hlb,Nat.mul_one,e1,w3,simprocAttr];exact⟨_,(by omega:(i-1+1).toNat<q),i-1,cs2,by omega,by omega,H2,rfl,rfl,rfl⟩
  ·simp only[push_cast,lp232_0,g0,g3,g6,g7,g10,hge,take_set,simprocAttr];exact⟨by first | rfl | trivial,cs',rfl,H'⟩
theorem up1237 {b n:Nat}(hlb:b<h.length)(hn:n<1000000){Q:Int->Int->Int->Prop}{cs:List Value}(H:RowT Q cs n){a e i j:Int}{v2:Value}(a0:0<=a)(ae:a<e)(he:e<=n)(i1:a+1<=i)(i2:i<=e)(j1:a<=j)(j2:j<e){f:Fr}(f0:f.rd 0=.slice (some ⟨b,0,none⟩) n 3)(f1:f.rd 1=.int .i64 a)(f2:f.rd 2=v2)(f4:f.rd 4=.func (.func 108) #[] #[])(fi:f.rd 11=.int .i64 i)(fj:f.rd 12=.int .i64 j){P:AX->Fr->Hp->Prop}
  (hP:∀(f':Fr) (i':Int),i<=i'->i'<=e->f'.rd 0=.slice (some ⟨b,0,none⟩) n 3->f'.rd 1=.int .i64 a->f'.rd 2=v2->f'.rd 4=.func (.func 108) #[] #[]->f'.rd 11=.int .i64 i'->f'.rd 12=.int .i64 j->P (.exit 2) f' (h.set b (.cells true cs))):Post (evK E lim (.loop lp237_1) f (h.set b (.cells true cs))) P:=by
 refine loop_post hE.mono (fun q g W=>∃i2:Int,i<=i2/\i2<=e/\W=h.set b (.cells true cs)/\g.rd 0=.slice (some ⟨b,0,none⟩) n 3/\g.rd 1=.int .i64 a/\g.rd 2=v2/\g.rd 4=.func (.func 108) #[] #[]/\g.rd 11=.int .i64 i2/\g.rd 12=.int .i64 j/\(e-i2).toNat=q) ?_ _ _ _ ⟨i,Int.le_refl _,i2,rfl,f0,f1,f2,f4,fi,fj,rfl⟩;have i0:=i1;clear i1 i2 fi fj f0 f1 f2 f4 ;rintro q g W ⟨k,i1,i2,rfl,g0,g1,g2,g4,gi,gj,hq⟩
 by_cases hle:k<=j
 ·have w1:=w64 (x:=k+1);obtain⟨iaa,iab,iag,ias⟩:=H.ix (i:=a);obtain⟨iva,ivb,ivg,ivs⟩:=H.ix (i:=k);cases hl:decide (ordF (pv cs (a) 0) (pv cs (a) 1) (pv cs (a) 2) (pv cs (k) 0) (pv cs (k) 1) (pv cs (k) 2)<0) with
  | false =>
   simp only[push_cast,lp237_1,g0,g1,g2,g4,gi,gj,hle,iaa,iab,iag,ias,iva,ivb,ivg,ivs,c108 hE,hl,set_get hlb,Nat.mul_one,w1,simprocAttr];exact⟨_,(by omega:(e-(k+1)).toNat<q),k+1,by omega,by omega,rfl,rfl⟩
  | true =>
   simp only[push_cast,lp237_1,g0,g1,g2,g4,gi,gj,hle,iaa,iab,iag,ias,iva,ivb,ivg,ivs,c108 hE,hl,set_get hlb,Nat.mul_one,simprocAttr];refine hP _ k i1 i2 ?_ ?_ ?_ ?_ ?_ ?_<;>simp only[push_cast,g0,g1,g2,g4,gi,gj,simprocAttr]
 ·simp only[push_cast,lp237_1,g0,g1,g2,g4,gi,gj,hle,simprocAttr];refine hP _ k i1 i2 ?_ ?_ ?_ ?_ ?_ ?_<;>simp only[push_cast,g0,g1,g2,g4,gi,gj,simprocAttr]
theorem dn0237 {b n:Nat}(hlb:b<h.length)(hn:n<1000000){Q:Int->Int->Int->Prop}{cs:List Value}(H:RowT Q cs n){a e i j:Int}{v2:Value}(a0:0<=a)(ae:a<e)(he:e<=n)(i1:a+1<=i)(i2:i<=e)(j1:a<=j)(j2:j<e){f:Fr}(f0:f.rd 0=.slice (some ⟨b,0,none⟩) n 3)(f1:f.rd 1=.int .i64 a)(f2:f.rd 2=v2)(f4:f.rd 4=.func (.func 108) #[] #[])(fi:f.rd 11=.int .i64 i)(fj:f.rd 12=.int .i64 j){P:AX->Fr->Hp->Prop}
  (hP:∀(f':Fr) (j':Int),a<=j'->j'<e->f'.rd 0=.slice (some ⟨b,0,none⟩) n 3->f'.rd 1=.int .i64 a->f'.rd 2=v2->f'.rd 4=.func (.func 108) #[] #[]->f'.rd 11=.int .i64 i->f'.rd 12=.int .i64 j'->P (.exit 4) f' (h.set b (.cells true cs))):Post (evK E lim (.loop lp237_0) f (h.set b (.cells true cs))) P:=by
 refine loop_post hE.mono (fun q g W=>∃j:Int,a<=j/\j<e/\W=h.set b (.cells true cs)/\g.rd 0=.slice (some ⟨b,0,none⟩) n 3/\g.rd 1=.int .i64 a/\g.rd 2=v2/\g.rd 4=.func (.func 108) #[] #[]/\g.rd 11=.int .i64 i/\g.rd 12=.int .i64 j/\j.toNat=q) ?_ _ _ _ ⟨j,j1,j2,rfl,f0,f1,f2,f4,fi,fj,rfl⟩;clear j1 j2 fi fj f0 f1 f2 f4 ;rintro q g W ⟨j,j1,j2,rfl,g0,g1,g2,g4,gi,gj,hq⟩
 by_cases hle:i<=j
 ·have w1:=w64 (x:=j-1);obtain⟨iaa,iab,iag,ias⟩:=H.ix (i:=a);obtain⟨iva,ivb,ivg,ivs⟩:=H.ix (i:=j);cases hl:decide (ordF (pv cs (a) 0) (pv cs (a) 1) (pv cs (a) 2) (pv cs (j) 0) (pv cs (j) 1) (pv cs (j) 2)<0) with
  | true =>
   simp only[push_cast,lp237_0,g0,g1,g2,g4,gi,gj,hle,iaa,iab,iag,ias,iva,ivb,ivg,ivs,c108 hE,hl,set_get hlb,Nat.mul_one,w1,simprocAttr];exact⟨_,(by omega:(j-1).toNat<q),j-1,by omega,by omega,rfl,rfl⟩
  | false =>
   simp only[push_cast,lp237_0,g0,g1,g2,g4,gi,gj,hle,iaa,iab,iag,ias,iva,ivb,ivg,ivs,c108 hE,hl,set_get hlb,Nat.mul_one,simprocAttr];refine hP _ j j1 j2 ?_ ?_ ?_ ?_ ?_ ?_<;>simp only[push_cast,g0,g1,g2,g4,gi,gj,simprocAttr]
 ·simp only[push_cast,lp237_0,g0,g1,g2,g4,gi,gj,hle,simprocAttr];refine hP _ j j1 j2 ?_ ?_ ?_ ?_ ?_ ?_<;>simp only[push_cast,g0,g1,g2,g4,gi,gj,simprocAttr]
theorem c237 {b n:Nat}{cs:List Value}{Q:Int->Int->Int->Prop}(hb:h[b]?=some (.cells true cs))(H:RowT Q cs n)(hn:n<1000000){a e p:Int}(a0:0<=a)(hae:a<e)(he:e<=n)(p0:a<=p)(p1:p<e) :
  PostV (evI E lim (.func 237) [.slice (some ⟨b,0,none⟩) n 3,.int .i64 a,.int .i64 e,.int .i64 p,.func (.func 108) #[] #[]] h) fun v h'=>∃(m:Int) (cs':List Value),v=.int .i64 m/\a<m/\m<=e/\h'=h.set b (.cells true cs')/\RowT Q cs' n:=by
 have hlb:=lt_of_get hb;have w1:=w64 (x:=a+1);have w2:=w64 (x:=e-1);obtain⟨iaa,iab,iag,ias⟩:=H.ix (i:=a);obtain⟨ipa,ipb,ipg,ips⟩:=H.ix (i:=p);rw[hE.fn T237]; simp only[push_cast,ac237,hb,w1,w2,iaa,iab,iag,ias,ipa,ipb,ipg,ips,set_get hlb,Nat.mul_one,simprocAttr];refine loop_post hE.mono (fun q g W=>∃(i j:Int) (cs':List Value),a+1<=i/\i<=e/\a<=j/\j<e/\RowT Q cs' n/\W=h.set b (.cells true cs')/\g.rd 0=.slice (some ⟨b,0,none⟩) n 3/\g.rd 1=.int .i64 a/\g.rd 2=.int .i64 e/\g.rd 4=.func (.func 108) #[] #[]/\g.rd 11=.int .i64 i/\g.rd 12=.int .i64 j/\(e-i).toNat=q) ?_ _ _ _ ⟨a+1,e-1,_,by omega,by omega,by omega,by omega,H.swap (x:=a) (y:=p),rfl,rfl,rfl,rfl,rfl,rfl,rfl,rfl⟩;rintro q g W ⟨i,j,cs',i1,i2,j1,j2,H',rfl,g0,g1,g2,g4,gi,gj,hq⟩;simp only[push_cast,lp237_2,simprocAttr];refine up1237 hE hlb hn H' a0 hae he i1 i2 j1 j2 g0 g1 g2 g4 gi gj ?_;intro f i' i1' i2' q0 q1 q2 q4 qi qj;simp only[push_cast,simprocAttr];refine dn0237 hE hlb hn H' a0 hae he (by omega) i2' j1 j2 q0 q1 q2 q4 qi qj ?_;intro f' j' j1' j2' r0 r1 r2 r4 ri rj
 by_cases hgt:i'>j'
 ·simp only[push_cast,r0,r1,r2,r4,ri,rj,hgt,take_set,simprocAttr];exact⟨i',cs',rfl,by omega,by omega,rfl,H'⟩
 ·have w3:=w64 (x:=i'+1);have w4:=w64 (x:=j'-1);obtain⟨iia,iib,iig,iis⟩:=H'.ix (i:=i');obtain⟨ija,ijb,ijg,ijs⟩:=H'.ix (i:=j');simp only[push_cast,r0,r1,r2,r4,ri,rj,hgt,w3,w4,iia,iib,iig,iis,ija,ijb,ijg,ijs,set_get hlb,Nat.mul_one,simprocAttr];exact⟨_,(by omega:(e-(i'+1)).toNat<q),i'+1,j'-1,_,by omega,by omega,by omega,by omega,H'.swap (x:=i') (y:=j'),rfl,rfl,rfl,rfl⟩
theorem up4238 {b n:Nat}(hlb:b<h.length)(hn:n<1000000){Q:Int->Int->Int->Prop}{cs:List Value}(H:RowT Q cs n){a e i j:Int}{v2:Value}(a0:0<=a)(ae:a<e)(he:e<=n)(i1:a+1<=i)(i2:i<=e)(j1:a<=j)(j2:j<e){f:Fr}(f0:f.rd 0=.slice (some ⟨b,0,none⟩) n 3)(f1:f.rd 1=.int .i64 a)(f2:f.rd 2=v2)(f4:f.rd 4=.func (.func 108) #[] #[])(fi:f.rd 12=.int .i64 i)(fj:f.rd 13=.int .i64 j){P:AX->Fr->Hp->Prop}
  (hP:∀(f':Fr) (i':Int),i<=i'->i'<=e->f'.rd 0=.slice (some ⟨b,0,none⟩) n 3->f'.rd 1=.int .i64 a->f'.rd 2=v2->f'.rd 4=.func (.func 108) #[] #[]->f'.rd 12=.int .i64 i'->f'.rd 13=.int .i64 j->P (.exit 0) f' (h.set b (.cells true cs))):Post (evK E lim (.loop lp238_4) f (h.set b (.cells true cs))) P:=by
 refine loop_post hE.mono (fun q g W=>∃i2:Int,i<=i2/\i2<=e/\W=h.set b (.cells true cs)/\g.rd 0=.slice (some ⟨b,0,none⟩) n 3/\g.rd 1=.int .i64 a/\g.rd 2=v2/\g.rd 4=.func (.func 108) #[] #[]/\g.rd 12=.int .i64 i2/\g.rd 13=.int .i64 j/\(e-i2).toNat=q) ?_ _ _ _ ⟨i,Int.le_refl _,i2,rfl,f0,f1,f2,f4,fi,fj,rfl⟩;have i0:=i1;clear i1 i2 fi fj f0 f1 f2 f4 ;rintro q g W ⟨k,i1,i2,rfl,g0,g1,g2,g4,gi,gj,hq⟩
 by_cases hle:k<=j
 ·have w1:=w64 (x:=k+1);obtain⟨iaa,iab,iag,ias⟩:=H.ix (i:=a);obtain⟨iva,ivb,ivg,ivs⟩:=H.ix (i:=k);cases hl:decide (ordF (pv cs (k) 0) (pv cs (k) 1) (pv cs (k) 2) (pv cs (a) 0) (pv cs (a) 1) (pv cs (a) 2)<0) with
  | true =>
   simp only[push_cast,lp238_4,g0,g1,g2,g4,gi,gj,hle,iaa,iab,iag,ias,iva,ivb,ivg,ivs,c108 hE,hl,set_get hlb,Nat.mul_one,w1,simprocAttr];exact⟨_,(by omega:(e-(k+1)).toNat<q),k+1,by omega,by omega,rfl,rfl⟩
  | false =>
   simp only[push_cast,lp238_4,g0,g1,g2,g4,gi,gj,hle,iaa,iab,iag,ias,iva,ivb,ivg,ivs,c108 hE,hl,set_get hlb,Nat.mul_one,simprocAttr];refine hP _ k i1 i2 ?_ ?_ ?_ ?_ ?_ ?_<;>simp only[push_cast,g0,g1,g2,g4,gi,gj,simprocAttr]
 ·simp only[push_cast,lp238_4,g0,g1,g2,g4,gi,gj,hle,simprocAttr];refine hP _ k i1 i2 ?_ ?_ ?_ ?_ ?_ ?_<;>simp only[push_cast,g0,g1,g2,g4,gi,gj,simprocAttr]
theorem dn3238 {b n:Nat}(hlb:b<h.length)(hn:n<1000000){Q:Int->Int->Int->Prop}{cs:List Value}(H:RowT Q cs n){a e i j:Int}{v2:Value}(a0:0<=a)(ae:a<e)(he:e<=n)(i1:a+1<=i)(i2:i<=e)(j1:a<=j)(j2:j<e){f:Fr}(f0:f.rd 0=.slice (some ⟨b,0,none⟩) n 3)(f1:f.rd 1=.int .i64 a)(f2:f.rd 2=v2)(f4:f.rd 4=.func (.func 108) #[] #[])(fi:f.rd 12=.int .i64 i)(fj:f.rd 13=.int .i64 j){P:AX->Fr->Hp->Prop}
  (hP:∀(f':Fr) (j':Int),a<=j'->j'<e->f'.rd 0=.slice (some ⟨b,0,none⟩) n 3->f'.rd 1=.int .i64 a->f'.rd 2=v2->f'.rd 4=.func (.func 108) #[] #[]->f'.rd 12=.int .i64 i->f'.rd 13=.int .i64 j'->P (.exit 2) f' (h.set b (.cells true cs))):Post (evK E lim (.loop lp238_3) f (h.set b (.cells true cs))) P:=by
 refine loop_post hE.mono (fun q g W=>∃j:Int,a<=j/\j<e/\W=h.set b (.cells true cs)/\g.rd 0=.slice (some ⟨b,0,none⟩) n 3/\g.rd 1=.int .i64 a/\g.rd 2=v2/\g.rd 4=.func (.func 108) #[] #[]/\g.rd 12=.int .i64 i/\g.rd 13=.int .i64 j/\j.toNat=q) ?_ _ _ _ ⟨j,j1,j2,rfl,f0,f1,f2,f4,fi,fj,rfl⟩;clear j1 j2 fi fj f0 f1 f2 f4 ;rintro q g W ⟨j,j1,j2,rfl,g0,g1,g2,g4,gi,gj,hq⟩
 by_cases hle:i<=j
 ·have w1:=w64 (x:=j-1);obtain⟨iaa,iab,iag,ias⟩:=H.ix (i:=a);obtain⟨iva,ivb,ivg,ivs⟩:=H.ix (i:=j);cases hl:decide (ordF (pv cs (j) 0) (pv cs (j) 1) (pv cs (j) 2) (pv cs (a) 0) (pv cs (a) 1) (pv cs (a) 2)<0) with
  | false =>
   simp only[push_cast,lp238_3,g0,g1,g2,g4,gi,gj,hle,iaa,iab,iag,ias,iva,ivb,ivg,ivs,c108 hE,hl,set_get hlb,Nat.mul_one,w1,simprocAttr];exact⟨_,(by omega:(j-1).toNat<q),j-1,by omega,by omega,rfl,rfl⟩
  | true =>
   simp only[push_cast,lp238_3,g0,g1,g2,g4,gi,gj,hle,iaa,iab,iag,ias,iva,ivb,ivg,ivs,c108 hE,hl,set_get hlb,Nat.mul_one,simprocAttr];refine hP _ j j1 j2 ?_ ?_ ?_ ?_ ?_ ?_<;>simp only[push_cast,g0,g1,g2,g4,gi,gj,simprocAttr]
 ·simp only[push_cast,lp238_3,g0,g1,g2,g4,gi,gj,hle,simprocAttr];refine hP _ j j1 j2 ?_ ?_ ?_ ?_ ?_ ?_<;>simp only[push_cast,g0,g1,g2,g4,gi,gj,simprocAttr]
theorem up1238 {b n:Nat}(hlb:b<h.length)(hn:n<1000000){Q:Int->Int->Int->Prop}{cs:List Value}(H:RowT Q cs n){a e i j:Int}{v2:Value}(a0:0<=a)(ae:a<e)(he:e<=n)(i1:a+1<=i)(i2:i<=e)(j1:a<=j)(j2:j<e){f:Fr}(f0:f.rd 0=.slice (some ⟨b,0,none⟩) n 3)(f1:f.rd 1=.int .i64 a)(f2:f.rd 2=v2)(f4:f.rd 4=.func (.func 108) #[] #[])(fi:f.rd 12=.int .i64 i)(fj:f.rd 13=.int .i64 j){P:AX->Fr->Hp->Prop}
  (hP:∀(f':Fr) (i':Int),i<=i'->i'<=e->f'.rd 0=.slice (some ⟨b,0,none⟩) n 3->f'.rd 1=.int .i64 a->f'.rd 2=v2->f'.rd 4=.func (.func 108) #[] #[]->f'.rd 12=.int .i64 i'->f'.rd 13=.int .i64 j->P (.exit 6) f' (h.set b (.cells true cs))):Post (evK E lim (.loop lp238_1) f (h.set b (.cells true cs))) P:=by
 refine loop_post hE.mono (fun q g W=>∃i2:Int,i<=i2/\i2<=e/\W=h.set b (.cells true cs)/\g.rd 0=.slice (some ⟨b,0,none⟩) n 3/\g.rd 1=.int .i64 a/\g.rd 2=v2/\g.rd 4=.func (.func 108) #[] #[]/\g.rd 12=.int .i64 i2/\g.rd 13=.int .i64 j/\(e-i2).toNat=q) ?_ _ _ _ ⟨i,Int.le_refl _,i2,rfl,f0,f1,f2,f4,fi,fj,rfl⟩;have i0:=i1;clear i1 i2 fi fj f0 f1 f2 f4 ;rintro q g W ⟨k,i1,i2,rfl,g0,g1,g2,g4,gi,gj,hq⟩
 by_cases hle:k<=j
 ·have w1:=w64 (x:=k+1);obtain⟨iaa,iab,iag,ias⟩:=H.ix (i:=a);obtain⟨iva,ivb,ivg,ivs⟩:=H.ix (i:=k);cases hl:decide (ordF (pv cs (k) 0) (pv cs (k) 1) (pv cs (k) 2) (pv cs (a) 0) (pv cs (a) 1) (pv cs (a) 2)<0) with
  | true =>
   simp only[push_cast,lp238_1,g0,g1,g2,g4,gi,gj,hle,iaa,iab,iag,ias,iva,ivb,ivg,ivs,c108 hE,hl,set_get hlb,Nat.mul_one,w1,simprocAttr];exact⟨_,(by omega:(e-(k+1)).toNat<q),k+1,by omega,by omega,rfl,rfl⟩
  | false =>
   simp only[push_cast,lp238_1,g0,g1,g2,g4,gi,gj,hle,iaa,iab,iag,ias,iva,ivb,ivg,ivs,c108 hE,hl,set_get hlb,Nat.mul_one,simprocAttr];refine hP _ k i1 i2 ?_ ?_ ?_ ?_ ?_ ?_<;>simp only[push_cast,g0,g1,g2,g4,gi,gj,simprocAttr]
 ·simp only[push_cast,lp238_1,g0,g1,g2,g4,gi,gj,hle,simprocAttr];refine hP _ k i1 i2 ?_ ?_ ?_ ?_ ?_ ?_<;>simp only[push_cast,g0,g1,g2,g4,gi,gj,simprocAttr]
theorem dn0238 {b n:Nat}(hlb:b<h.length)(hn:n<1000000){Q:Int->Int->Int->Prop}{cs:List Value}(H:RowT Q cs n){a e i j:Int}{v2:Value}(a0:0<=a)(ae:a<e)(he:e<=n)(i1:a+1<=i)(i2:i<=e)(j1:a<=j)(j2:j<e){f:Fr}(f0:f.rd 0=.slice (some ⟨b,0,none⟩) n 3)(f1:f.rd 1=.int .i64 a)(f2:f.rd 2=v2)(f4:f.rd 4=.func (.func 108) #[] #[])(fi:f.rd 12=.int .i64 i)(fj:f.rd 13=.int .i64 j){P:AX->Fr->Hp->Prop}
  (hP:∀(f':Fr) (j':Int),a<=j'->j'<e->f'.rd 0=.slice (some ⟨b,0,none⟩) n 3->f'.rd 1=.int .i64 a->f'.rd 2=v2->f'.rd 4=.func (.func 108) #[] #[]->f'.rd 12=.int .i64 i->f'.rd 13=.int .i64 j'->P (.exit 8) f' (h.set b (.cells true cs))):Post (evK E lim (.loop lp238_0) f (h.set b (.cells true cs))) P:=by
 refine loop_post hE.mono (fun q g W=>∃j:Int,a<=j/\j<e/\W=h.set b (.cells true cs)/\g.rd 0=.slice (some ⟨b,0,none⟩) n 3/\g.rd 1=.int .i64 a/\g.rd 2=v2/\g.rd 4=.func (.func 108) #[] #[]/\g.rd 12=.int .i64 i/\g.rd 13=.int .i64 j/\j.toNat=q) ?_ _ _ _ ⟨j,j1,j2,rfl,f0,f1,f2,f4,fi,fj,rfl⟩;clear j1 j2 fi fj f0 f1 f2 f4 ;rintro q g W ⟨j,j1,j2,rfl,g0,g1,g2,g4,gi,gj,hq⟩
 by_cases hle:i<=j
 ·have w1:=w64 (x:=j-1);obtain⟨iaa,iab,iag,ias⟩:=H.ix (i:=a);obtain⟨iva,ivb,ivg,ivs⟩:=H.ix (i:=j);cases hl:decide (ordF (pv cs (j) 0) (pv cs (j) 1) (pv cs (j) 2) (pv cs (a) 0) (pv cs (a) 1) (pv cs (a) 2)<0) with
  | false =>
   simp only[push_cast,lp238_0,g0,g1,g2,g4,gi,gj,hle,iaa,iab,iag,ias,iva,ivb,ivg,ivs,c108 hE,hl,set_get hlb,Nat.mul_one,w1,simprocAttr];exact⟨_,(by omega:(j-1).toNat<q),j-1,by omega,by omega,rfl,rfl⟩
  | true =>
   simp only[push_cast,lp238_0,g0,g1,g2,g4,gi,gj,hle,iaa,iab,iag,ias,iva,ivb,ivg,ivs,c108 hE,hl,set_get hlb,Nat.mul_one,simprocAttr];refine hP _ j j1 j2 ?_ ?_ ?_ ?_ ?_ ?_<;>simp only[push_cast,g0,g1,g2,g4,gi,gj,simprocAttr]
 ·simp only[push_cast,lp238_0,g0,g1,g2,g4,gi,gj,hle,simprocAttr];refine hP _ j j1 j2 ?_ ?_ ?_ ?_ ?_ ?_<;>simp only[push_cast,g0,g1,g2,g4,gi,gj,simprocAttr]
theorem c238 {b n:Nat}{cs:List Value}{Q:Int->Int->Int->Prop}(hb:h[b]?=some (.cells true cs))(H:RowT Q cs n)(hn:n<1000000){a e p:Int}(a0:0<=a)(hae:a<e)(he:e<=n)(p0:a<=p)(p1:p<e) :
  PostV (evI E lim (.func 238) [.slice (some ⟨b,0,none⟩) n 3,.int .i64 a,.int .i64 e,.int .i64 p,.func (.func 108) #[] #[]] h) fun v h'=>∃(m:Int) (al:Bool) (cs':List Value),v=.tuple #[.int .i64 m,.bool al]/\a<=m/\m<e/\h'=h.set b (.cells true cs')/\RowT Q cs' n:=by
 have hlb:=lt_of_get hb;have w1:=w64 (x:=a+1);have w2:=w64 (x:=e-1);obtain⟨iaa,iab,iag,ias⟩:=H.ix (i:=a);obtain⟨ipa,ipb,ipg,ips⟩:=H.ix (i:=p);rw[hE.fn T238]; simp only[push_cast,ac238,hb,w1,w2,iaa,iab,iag,ias,ipa,ipb,ipg,ips,set_get hlb,Nat.mul_one,simprocAttr];obtain⟨cs1,e1,H1⟩:∃c,c=_/\RowT Q c n:=⟨_,rfl,H.swap (x:=a) (y:=p)⟩;rw[<- e1];refine up4238 hE hlb hn H1 a0 hae he (i:=a+1) (j:=e-1) (v2:=.int .i64 e) (by omega) (by omega) (by omega) (by omega) (by simp) (by simp) (by simp) (by simp) (by simp) (by simp) ?_;intro f i' i1' i2' q0 q1 q2 q4 qi qj;simp only[push_cast,simprocAttr];refine dn3238 hE hlb hn H1 a0 hae he i1' i2' (by omega) (by omega) q0 q1 q2 q4 qi qj ?_;intro f' j' j1' j2' r0 r1 r2 r4 ri rj
 by_cases hgt:i'>j'
 ·skip
  obtain⟨jaa,jab,jag,jas⟩:=H1.ix (i:=a);obtain⟨jja,jjb,jjg,jjs⟩:=H1.ix (i:=j');simp only[push_cast,r0,r1,r2,r4,ri,rj,hgt,jaa,jab,jag,jas,jja,jjb,jjg,jjs,set_get hlb,Nat.mul_one,take_set,simprocAttr];exact⟨j',true,_,rfl,j1',j2',rfl,H1.swap (x:=j') (y:=a)⟩
 ·have w3:=w64 (x:=i'+1);have w4:=w64 (x:=j'-1);obtain⟨iia,iib,iig,iis⟩:=H1.ix (i:=i');obtain⟨ija,ijb,ijg,ijs⟩:=H1.ix (i:=j');simp only[push_cast,r0,r1,r2,r4,ri,rj,hgt,w3,w4,iia,iib,iig,iis,ija,ijb,ijg,ijs,set_get hlb,Nat.mul_one,simprocAttr];refine loop_post hE.mono (fun q g W=>∃(i j:Int) (cs':List Value),a+1<=i/\i<=e/\a<=j/\j<e/\RowT Q cs' n/\W=h.set b (.cells true cs')/\g.rd 0=.slice (some ⟨b,0,none⟩) n 3/\g.rd 1=.int .i64 a/\g.rd 2=.int .i64 e/\g.rd 4=.func (.func 108) #[] #[]/\g.rd 12=.int .i64 i/\g.rd 13=.int .i64 j/\(e-i).toNat=q) ?_ _ _ _ ⟨i'+1,j'-1,_,by omega,by omega,by omega,by omega,H1.swap (x:=i') (y:=j'),rfl,by simp[r0],by simp[r1],by simp[r2],by simp[r4],by simp,by simp,rfl⟩;clear r0 r1 r2 r4 ri rj q0 q1 q2 q4 qi qj;rintro q g W ⟨i,j,cs',i1,i2,j1,j2,H',rfl,g0,g1,g2,g4,gi,gj,hq⟩;simp only[push_cast,lp238_2,simprocAttr];refine up1238 hE hlb hn H' a0 hae he i1 i2 j1 j2 g0 g1 g2 g4 gi gj ?_;intro f i' i1' i2' q0 q1 q2 q4 qi qj;simp only[push_cast,simprocAttr];refine dn0238 hE hlb hn H' a0 hae he (by omega) i2' j1 j2 q0 q1 q2 q4 qi qj ?_;intro f' j' j1' j2' r0 r1 r2 r4 ri rj
  by_cases hgt:i'>j'
  ·skip
   obtain⟨jaa,jab,jag,jas⟩:=H'.ix (i:=a);obtain⟨jja,jjb,jjg,jjs⟩:=H'.ix (i:=j');simp only[push_cast,r0,r1,r2,r4,ri,rj,hgt,jaa,jab,jag,jas,jja,jjb,jjg,jjs,set_get hlb,Nat.mul_one,take_set,simprocAttr];exact⟨j',false,_,rfl,j1',j2',rfl,H'.swap (x:=j') (y:=a)⟩
  ·have w3:=w64 (x:=i'+1);have w4:=w64 (x:=j'-1);obtain⟨iia,iib,iig,iis⟩:=H'.ix (i:=i');obtain⟨ija,ijb,ijg,ijs⟩:=H'.ix (i:=j');simp only[push_cast,r0,r1,r2,r4,ri,rj,hgt,w3,w4,iia,iib,iig,iis,ija,ijb,ijg,ijs,set_get hlb,Nat.mul_one,simprocAttr];exact⟨_,(by omega:(e-(i'+1)).toNat<q),i'+1,j'-1,_,by omega,by omega,by omega,by omega,H'.swap (x:=i') (y:=j'),rfl,rfl,rfl,rfl⟩
theorem ps2236 {b n:Nat}(hlb:b<h.length)(hn:n<1000000){Q:Int->Int->Int->Prop}{cs:List Value}(H:RowT Q cs n){a e i:Int}{v8:Value}(a0:0<=a)(he:e<=n)(i1:a+1<=i)(i2:i<=e){f:Fr}(f0:f.rd 0=.slice (some ⟨b,0,none⟩) n 3)(f1:f.rd 1=.int .i64 a)(f2:f.rd 2=.int .i64 e)(f3:f.rd 3=.func (.func 108) #[] #[])(f7:f.rd 9=.int .i64 i)(f8:f.rd 10=v8){P:AX->Fr->Hp->Prop}
  (hP:∀(f':Fr) (i':Int),a+1<=i'->i'<=e->f'.rd 0=.slice (some ⟨b,0,none⟩) n 3->f'.rd 1=.int .i64 a->f'.rd 2=.int .i64 e->f'.rd 3=.func (.func 108) #[] #[]->f'.rd 9=.int .i64 i'->f'.rd 10=v8->P (.exit 2) f' (h.set b (.cells true cs))):Post (evK E lim (.loop lp236_2) f (h.set b (.cells true cs))) P:=by
 refine loop_post hE.mono (fun q g W=>∃i:Int,a+1<=i/\i<=e/\W=h.set b (.cells true cs)/\g.rd 0=.slice (some ⟨b,0,none⟩) n 3/\g.rd 1=.int .i64 a/\g.rd 2=.int .i64 e/\g.rd 3=.func (.func 108) #[] #[]/\g.rd 9=.int .i64 i/\g.rd 10=v8/\(e-i).toNat=q) ?_ _ _ _ ⟨i,i1,i2,rfl,f0,f1,f2,f3,f7,f8,rfl⟩;clear i1 i2 f0 f1 f2 f3 f7 f8;rintro q g W ⟨i,i1,i2,rfl,g0,g1,g2,g3,g7,g8,hq⟩
 by_cases hlt:i<e
 ·have w1:=w64 (x:=i-1);have w2:=w64 (x:=i+1);obtain⟨iia,iib,iig,iis⟩:=H.ix (i:=i);obtain⟨ija,ijb,ijg,ijs⟩:=H.ix (i:=(i-1));cases hl:decide (ordF (pv cs (i) 0) (pv cs (i) 1) (pv cs (i) 2) (pv cs (i-1) 0) (pv cs (i-1) 1) (pv cs (i-1) 2)<0) with
  | false =>
   simp only[push_cast,lp236_2,g0,g1,g2,g3,g7,g8,hlt,iia,iib,iig,iis,ija,ijb,ijg,ijs,c108 hE,hl,set_get hlb,Nat.mul_one,w1,w2,simprocAttr];exact⟨_,(by omega:(e-(i+1)).toNat<q),i+1,by omega,by omega,rfl,rfl⟩
  | true =>
   simp only[push_cast,lp236_2,g0,g1,g2,g3,g7,g8,hlt,iia,iib,iig,iis,ija,ijb,ijg,ijs,c108 hE,hl,set_get hlb,Nat.mul_one,w1,w2,simprocAttr];refine hP _ i i1 i2 ?_ ?_ ?_ ?_ ?_ ?_<;>simp only[push_cast,g0,g1,g2,g3,g7,g8,simprocAttr]
 ·simp only[push_cast,lp236_2,g0,g1,g2,g3,g7,g8,hlt,simprocAttr];refine hP _ i i1 i2 ?_ ?_ ?_ ?_ ?_ ?_<;>simp only[push_cast,g0,g1,g2,g3,g7,g8,simprocAttr]
theorem ps1236 {b n:Nat}(hlb:b<h.length)(hn:n<1000000){Q:Int->Int->Int->Prop}{cs:List Value}(H:RowT Q cs n){j:Int}{v1 v2 v7 v8:Value}(j1:0<=j)(j2:j<n){f:Fr}(f0:f.rd 0=.slice (some ⟨b,0,none⟩) n 3)(f1:f.rd 1=v1)(f2:f.rd 2=v2)(f3:f.rd 3=.func (.func 108) #[] #[])(f7:f.rd 9=v7)(f8:f.rd 10=v8)(f9:f.rd 11=.int .i64 j){P:AX->Fr->Hp->Prop}
  (hP:∀(f':Fr) (cs':List Value),RowT Q cs' n->f'.rd 0=.slice (some ⟨b,0,none⟩) n 3->f'.rd 1=v1->f'.rd 2=v2->f'.rd 3=.func (.func 108) #[] #[]->f'.rd 9=v7->f'.rd 10=v8->P (.exit 4) f' (h.set b (.cells true cs'))):Post (evK E lim (.loop lp236_1) f (h.set b (.cells true cs))) P:=by
 refine loop_post hE.mono (fun q g W=>∃(j:Int) (cs':List Value),0<=j/\j<n/\RowT Q cs' n/\W=h.set b (.cells true cs')/\g.rd 0=.slice (some ⟨b,0,none⟩) n 3/\g.rd 1=v1/\g.rd 2=v2/\g.rd 3=.func (.func 108) #[] #[]/\g.rd 9=v7/\g.rd 10=v8/\g.rd 11=.int .i64 j/\j.toNat=q) ?_ _ _ _ ⟨j,cs,j1,j2,H,rfl,f0,f1,f2,f3,f7,f8,f9,rfl⟩;clear j1 j2 f0 f1 f2 f3 f7 f8 f9;rintro q g W ⟨j,cs',j1,j2,H',rfl,g0,g1,g2,g3,g7,g8,g9,hq⟩
 by_cases hge:j>=1
 ·have w1:=w64 (x:=j-1);obtain⟨iia,iib,iig,iis⟩:=H'.ix (i:=j);obtain⟨ija,ijb,ijg,ijs⟩:=H'.ix (i:=(j-1));cases hl:decide (ordF (pv cs' (j) 0) (pv cs' (j) 1) (pv cs' (j) 2) (pv cs' (j-1) 0) (pv cs' (j-1) 1) (pv cs' (j-1) 2)<0) with
  | true =>
   simp only[push_cast,lp236_1,g0,g1,g2,g3,g7,g8,g9,hge,iia,iib,iig,iis,ija,ijb,ijg,ijs,c108 hE,hl,set_get hlb,Nat.mul_one,w1,simprocAttr];exact⟨_,(by omega:(j-1).toNat<q),j-1,_,by omega,by omega,H'.swap (x:=j) (y:=j-1),rfl,rfl,rfl⟩
  | false =>
   simp only[push_cast,lp236_1,g0,g1,g2,g3,g7,g8,g9,hge,iia,iib,iig,iis,ija,ijb,ijg,ijs,c108 hE,hl,set_get hlb,Nat.mul_one,w1,simprocAttr];refine hP _ cs' H' ?_ ?_ ?_ ?_ ?_ ?_<;>simp only[push_cast,g0,g1,g2,g3,g7,g8,simprocAttr]
 ·simp only[push_cast,lp236_1,g0,g1,g2,g3,g7,g8,g9,hge,simprocAttr];refine hP _ cs' H' ?_ ?_ ?_ ?_ ?_ ?_<;>simp only[push_cast,g0,g1,g2,g3,g7,g8,simprocAttr]
theorem ps0236 {b n:Nat}(hlb:b<h.length)(hn:n<1000000){Q:Int->Int->Int->Prop}{cs:List Value}(H:RowT Q cs n){j e:Int}{v1 v7 v8:Value}(he:e<=n)(j1:1<=j)(j2:j<=n){f:Fr}(f0:f.rd 0=.slice (some ⟨b,0,none⟩) n 3)(f1:f.rd 1=v1)(f2:f.rd 2=.int .i64 e)(f3:f.rd 3=.func (.func 108) #[] #[])(f7:f.rd 9=v7)(f8:f.rd 10=v8)(f10:f.rd 12=.int .i64 j){P:AX->Fr->Hp->Prop}
  (hP:∀(f':Fr) (cs':List Value),RowT Q cs' n->f'.rd 0=.slice (some ⟨b,0,none⟩) n 3->f'.rd 1=v1->f'.rd 2=.int .i64 e->f'.rd 3=.func (.func 108) #[] #[]->f'.rd 9=v7->f'.rd 10=v8->P (.exit 6) f' (h.set b (.cells true cs'))):Post (evK E lim (.loop lp236_0) f (h.set b (.cells true cs))) P:=by
 refine loop_post hE.mono (fun q g W=>∃(j:Int) (cs':List Value),1<=j/\j<=n/\RowT Q cs' n/\W=h.set b (.cells true cs')/\g.rd 0=.slice (some ⟨b,0,none⟩) n 3/\g.rd 1=v1/\g.rd 2=.int .i64 e/\g.rd 3=.func (.func 108) #[] #[]/\g.rd 9=v7/\g.rd 10=v8/\g.rd 12=.int .i64 j/\(n-j).toNat=q) ?_ _ _ _ ⟨j,cs,j1,j2,H,rfl,f0,f1,f2,f3,f7,f8,f10,rfl⟩;clear j1 j2 f0 f1 f2 f3 f7 f8 f10;rintro q g W ⟨j,cs',j1,j2,H',rfl,g0,g1,g2,g3,g7,g8,g10,hq⟩
 by_cases hlt:j<e
 ·have w1:=w64 (x:=j-1);have w2:=w64 (x:=j+1);obtain⟨iia,iib,iig,iis⟩:=H'.ix (i:=j);obtain⟨ija,ijb,ijg,ijs⟩:=H'.ix (i:=(j-1));cases hl:decide (ordF (pv cs' (j) 0) (pv cs' (j) 1) (pv cs' (j) 2) (pv cs' (j-1) 0) (pv cs' (j-1) 1) (pv cs' (j-1) 2)<0) with
  | true =>
   simp only[push_cast,lp236_0,g0,g1,g2,g3,g7,g8,g10,hlt,iia,iib,iig,iis,ija,ijb,ijg,ijs,c108 hE,hl,set_get hlb,Nat.mul_one,w1,w2,simprocAttr];exact⟨_,(by omega:((n:Int)-(j+1)).toNat<q),j+1,_,by omega,by omega,H'.swap (x:=j) (y:=j-1),rfl,rfl,rfl⟩
  | false =>
   simp only[push_cast,lp236_0,g0,g1,g2,g3,g7,g8,g10,hlt,iia,iib,iig,iis,ija,ijb,ijg,ijs,c108 hE,hl,set_get hlb,Nat.mul_one,w1,simprocAttr];refine hP _ cs' H' ?_ ?_ ?_ ?_ ?_ ?_<;>simp only[push_cast,g0,g1,g2,g3,g7,g8,simprocAttr]
 ·simp only[push_cast,lp236_0,g0,g1,g2,g3,g7,g8,g10,hlt,simprocAttr];refine hP _ cs' H' ?_ ?_ ?_ ?_ ?_ ?_<;>simp only[push_cast,g0,g1,g2,g3,g7,g8,simprocAttr]
theorem c236 {b n:Nat}{cs:List Value}{Q:Int->Int->Int->Prop}(hb:h[b]?=some (.cells true cs))(H:RowT Q cs n)(hn:n<1000000){a e:Int}(a0:0<=a)(hae:a<e)(he:e<=n) :
  PostV (evI E lim (.func 236) [.slice (some ⟨b,0,none⟩) n 3,.int .i64 a,.int .i64 e,.func (.func 108) #[] #[]] h) fun v h'=>∃(r:Bool) (cs':List Value),v=.bool r/\h'=h.set b (.cells true cs')/\RowT Q cs' n:=by
 have hlb:=lt_of_get hb;have w1:=w64 (x:=a+1);have w0:=w64 (x:=e-a);rw[hE.fn T236]; simp only[push_cast,ac236,w1,simprocAttr];refine loop_post hE.mono (fun q g W=>∃(i k:Int) (cs':List Value),a+1<=i/\i<=e/\0<=k/\k<=5/\RowT Q cs' n/\W=h.set b (.cells true cs')/\g.rd 0=.slice (some ⟨b,0,none⟩) n 3/\g.rd 1=.int .i64 a/\g.rd 2=.int .i64 e/\g.rd 3=.func (.func 108) #[] #[]/\g.rd 9=.int .i64 i/\g.rd 10=.int .i64 k/\(5-k).toNat=q) ?_ _ _ _ ⟨a+1,0,cs,by omega,by omega,by omega,by omega,H,(set_same hb).symm,rfl,rfl,rfl,rfl,rfl,rfl,rfl⟩;rintro q g W ⟨i,k,cs',i1,i2,k1,k2,H',rfl,g0,g1,g2,g3,g7,g8,hq⟩;have w8:=w64 (x:=k+1)
 by_cases hlt:k<5
 ·simp only[push_cast,lp236_3,g0,g1,g2,g3,g7,g8,hlt,simprocAttr];refine ps2236 hE hlb hn H' a0 he i1 i2 (by simp[g0]) (by simp[g1]) (by simp[g2]) (by simp[g3]) (by simp[g7]) (v8:=.int .i64 k) (by simp[g8]) ?_;clear g0 g1 g2 g3 g7 g8 i1 i2;intro f i' i1 i2 q0 q1 q2 q3 q7 q8;cases hie:(i'==e) with
  | true =>
   simp only[push_cast,q0,q1,q2,q3,q7,q8,hie,take_set,simprocAttr];exact⟨true,cs',rfl,rfl,H'⟩
  | false =>
   have hne:i'≠e:=by simpa using hie
   by_cases h50:e-a<50
   ·simp only[push_cast,q0,q1,q2,q3,q7,q8,hie,w0,h50,take_set,simprocAttr];exact⟨false,cs',rfl,rfl,H'⟩
   ·have w2:=w64 (x:=i'-1);have w3:=w64 (x:=i'+1);have w4:=w64 (x:=i'-a);have w5:=w64 (x:=e-i');obtain⟨iia,iib,iig,iis⟩:=H'.ix (i:=i');obtain⟨ija,ijb,ijg,ijs⟩:=H'.ix (i:=(i'-1));have H2:=H'.swap (x:=i') (y:=i'-1)
    have tail:∀(f:Fr) (cs2:List Value),RowT Q cs2 n->f.rd 0=.slice (some ⟨b,0,none⟩) n 3->f.rd 1=.int .i64 a->f.rd 2=.int .i64 e->f.rd 3=.func (.func 108) #[] #[]->f.rd 9=.int .i64 i'->f.rd 10=.int .i64 k->e-i'>=2->∀ {R:AX->Fr->Hp->Prop},(∀(f':Fr) (cs3:List Value),RowT Q cs3 n->f'.rd 0=.slice (some ⟨b,0,none⟩) n 3->f'.rd 1=.int .i64 a->f'.rd 2=.int .i64 e->f'.rd 3=.func (.func 108) #[] #[]->f'.rd 9=.int .i64 i'->f'.rd 10=.int .i64 k->R (.exit 6) f' (h.set b (.cells true cs3)))->f.rd 12=.int .i64 (i'+1)->Post (evK E h.length (.loop lp236_0) f (h.set b (.cells true cs2))) R :=
     fun f cs2 H2 r0 r1 r2 r3 r7 r8 _ R hR r10=>ps0236 hE hlb hn H2 he (j:=i'+1) (by omega) (by omega) r0 r1 r2 r3 r7 r8 r10 hR
    by_cases h2:i'-a>=2
    ·simp only[push_cast,q0,q1,q2,q3,q7,q8,hie,w0,h50,w2,w4,h2,iia,iib,iig,iis,ija,ijb,ijg,ijs,set_get hlb,Nat.mul_one,simprocAttr];refine ps1236 hE hlb hn H2 (j:=i'-1) (by omega) (by omega) (by simp[q0]) (v1:=.int .i64 a) (by simp[q1]) (v2:=.int .i64 e) (by simp[q2]) (by simp[q3]) (v7:=.int .i64 i') (by simp[q7]) (v8:=.int .i64 k) (by simp[q8]) (by simp) ?_;clear q0 q1 q2 q3 q7 q8;intro f cs3 H3 q0 q1 q2 q3 q7 q8
     by_cases h3:e-i'>=2
     ·simp only[push_cast,q0,q1,q2,q3,q7,q8,w5,h3,w3,simprocAttr];refine tail _ cs3 H3 (by simp[q0]) (by simp[q1]) (by simp[q2]) (by simp[q3]) (by simp[q7]) (by simp[q8]) h3 ?_ (by simp);clear q0 q1 q2 q3 q7 q8;intro f cs4 H4 q0 q1 q2 q3 q7 q8;simp only[push_cast,q0,q1,q2,q3,q7,q8,w8,simprocAttr];exact⟨_,(by omega:(5-(k+1)).toNat<q),i',k+1,cs4,by omega,by omega,by omega,by omega,H4,rfl,rfl,rfl,rfl⟩
     ·simp only[push_cast,q0,q1,q2,q3,q7,q8,w5,h3,w8,simprocAttr];exact⟨_,(by omega:(5-(k+1)).toNat<q),i',k+1,cs3,by omega,by omega,by omega,by omega,H3,rfl,rfl,rfl,rfl⟩
    ·by_cases h3:e-i'>=2
     ·simp only[push_cast,q0,q1,q2,q3,q7,q8,hie,w0,h50,w2,w4,h2,iia,iib,iig,iis,ija,ijb,ijg,ijs,set_get hlb,Nat.mul_one,w5,h3,w3,simprocAttr];refine tail _ _ H2 (by simp[q0]) (by simp[q1]) (by simp[q2]) (by simp[q3]) (by simp[q7]) (by simp[q8]) h3 ?_ (by simp);clear q0 q1 q2 q3 q7 q8;intro f cs4 H4 q0 q1 q2 q3 q7 q8;simp only[push_cast,q0,q1,q2,q3,q7,q8,w8,simprocAttr];exact⟨_,(by omega:(5-(k+1)).toNat<q),i',k+1,cs4,by omega,by omega,by omega,by omega,H4,rfl,rfl,rfl,rfl⟩
     ·simp only[push_cast,q0,q1,q2,q3,q7,q8,hie,w0,h50,w2,w4,h2,iia,iib,iig,iis,ija,ijb,ijg,ijs,set_get hlb,Nat.mul_one,w5,h3,w8,simprocAttr];exact⟨_,(by omega:(5-(k+1)).toNat<q),i',k+1,_,by omega,by omega,by omega,by omega,H2,rfl,rfl,rfl,rfl⟩
 ·simp only[push_cast,lp236_3,g0,g1,g2,g3,g7,g8,hlt,take_set,simprocAttr];exact⟨false,cs',rfl,rfl,H'⟩
def PD166 (h:Hp)(b n:Nat){Q:Int->Int->Int->Prop}(a e:Int)(pk:Bool)(g:Fr)(W:Hp):Prop:=∃(l p k:Int) (wb wp:Bool) (cs:List Value),0<=l/\l<=64/\RowT Q cs n/\W=h.set b (.cells true cs)/\g.rd 0=.slice (some ⟨b,0,none⟩) n 3/\g.rd 1=.int .i64 a/\g.rd 2=.int .i64 e/\g.rd 3=.int .i64 l/\g.rd 4=.func (.func 108) #[] #[]/\g.rd 10=.bool wb/\g.rd 11=.bool wp/\g.rd 12=.int .i64 (e-a)/\(pk=true->g.rd 13=.int .i64 p/\g.rd 14=.int .i64 k/\a<=p/\p<e)
theorem c166 (hLn:LenOk E){b n:Nat}(hn:n<1000000){Q:Int->Int->Int->Prop}:∀(k lim:Nat) (h:Hp) (cs:List Value) (a e l:Int),h[b]?=some (.cells true cs)->RowT Q cs n->0<=a->a<=e->e<=n->0<=l->l<=64->(e-a).toNat<=k ->
  PostV (evI E lim (.func 166) [.slice (some ⟨b,0,none⟩) n 3,.int .i64 a,.int .i64 e,.int .i64 l,.func (.func 108) #[] #[]] h) fun v h'=>v=undef/\∃cs',h'=h.set b (.cells true cs')/\RowT Q cs' n:=by
 intro k
 induction k using Nat.strongRecOn with
 | _ k ih =>
 intro lim h cs a e l hb H a0 hae he l0 l1 hk;have hlb:=lt_of_get hb;rw[hE.fn T166]; simp only[push_cast,ac166,simprocAttr];refine loop_post hE.mono (fun q g W=>∃(a e l:Int) (wb wp:Bool) (cs:List Value),0<=a/\a<=e/\e<=n/\q<=k/\(e-a).toNat=q/\0<=l/\l<=64/\RowT Q cs n/\W=h.set b (.cells true cs)/\g.rd 0=.slice (some ⟨b,0,none⟩) n 3/\g.rd 1=.int .i64 a/\g.rd 2=.int .i64 e/\g.rd 3=.int .i64 l/\g.rd 4=.func (.func 108) #[] #[]/\g.rd 10=.bool wb/\g.rd 11=.bool wp) ?_ _ _ _ ⟨a,e,l,true,true,cs,a0,hae,he,hk,rfl,l0,l1,H,(set_same hb).symm,rfl,rfl,rfl,rfl,rfl,rfl,rfl⟩;clear hb H a0 hae he l0 l1 hk a e l cs;rintro q g W ⟨a,e,l,wb,wp,cs,a0,hae,he,hk,hq,l0,l1,H,rfl,g0,g1,g2,g3,g4,g8,g9⟩;have w0:=w64 (x:=e-a);have hb:∀cs,(h.set b (.cells true cs))[b]?=some (.cells true cs):=fun cs=>set_get hlb;unfold lp166_0;refine post_blk hE.mono ?_
 by_cases h12:e-a<=12
 ·obtain⟨v1,h1,e1,rfl,cs2,rfl,H2⟩:=(c231 hE (lim:=h.length) (hb cs) H hn a0 hae he).out;rw[List.set_set] at e1;simp only[push_cast,g0,g1,g2,g3,g4,g8,g9,w0,h12,e1,take_set,simprocAttr];exact⟨by first | rfl | trivial,cs2,rfl,H2⟩
 refine post_mid hE.mono (fun g W=>W=h.set b (.cells true cs)/\g.rd 0=.slice (some ⟨b,0,none⟩) n 3/\g.rd 1=.int .i64 a/\g.rd 2=.int .i64 e/\g.rd 3=.int .i64 l/\g.rd 4=.func (.func 108) #[] #[]/\g.rd 10=.bool wb/\g.rd 11=.bool wp/\g.rd 12=.int .i64 (e-a)) (by simp only[push_cast,g0,g1,g2,g3,g4,g8,g9,w0,simprocAttr]) ?_;clear g0 g1 g2 g3 g4 g8 g9 g;rintro g W ⟨rfl,g0,g1,g2,g3,g4,g8,g9,g10⟩;refine post_mid hE.mono (fun g W=>W=h.set b (.cells true cs)/\g.rd 0=.slice (some ⟨b,0,none⟩) n 3/\g.rd 1=.int .i64 a/\g.rd 2=.int .i64 e/\g.rd 3=.int .i64 l/\g.rd 4=.func (.func 108) #[] #[]/\g.rd 10=.bool wb/\g.rd 11=.bool wp/\g.rd 12=.int .i64 (e-a)) (by simp only[push_cast,g0,g1,g2,g3,g4,g8,g9,g10,h12,simprocAttr]) ?_;clear g0 g1 g2 g3 g4 g8 g9 g10 g;rintro g W ⟨rfl,g0,g1,g2,g3,g4,g8,g9,g10⟩;cases hl0:(l==0) with
 | true =>
  obtain⟨v1,h1,e1,rfl,cs2,rfl,H2⟩:=(c232 hE (lim:=h.length) (hb cs) H hn a0 (by omega) he).out;rw[List.set_set] at e1;simp only[push_cast,g0,g1,g2,g3,g4,hl0,e1,take_set,simprocAttr];exact⟨by first | rfl | trivial,cs2,rfl,H2⟩
 | false =>
 have hlne:l≠0:=by simpa using hl0
 refine post_mid hE.mono (fun g W=>W=h.set b (.cells true cs)/\g.rd 0=.slice (some ⟨b,0,none⟩) n 3/\g.rd 1=.int .i64 a/\g.rd 2=.int .i64 e/\g.rd 3=.int .i64 l/\g.rd 4=.func (.func 108) #[] #[]/\g.rd 10=.bool wb/\g.rd 11=.bool wp/\g.rd 12=.int .i64 (e-a)) (by simp only[push_cast,g0,g1,g2,g3,g4,g8,g9,g10,hl0,simprocAttr]) ?_;clear g0 g1 g2 g3 g4 g8 g9 g10 g;rintro g W ⟨rfl,g0,g1,g2,g3,g4,g8,g9,g10⟩;refine post_mid hE.mono (PD166 h b n (Q:=Q) a e false) ?_ ?_
 ·cases wb with
  | true =>
   simp only[push_cast,g0,g1,g2,g3,g4,g8,g9,g10,simprocAttr];exact⟨l,0,0,true,wp,cs,l0,l1,H,rfl,by simp[g0],by simp[g1],by simp[g2],by simp[g3],by simp[g4],by simp[g8],by simp[g9],by simp[g10],fun h=>by cases h⟩
  | false =>
   obtain⟨v1,h1,e1,rfl,cs2,rfl,H2⟩:=(c233 hE hLn (lim:=h.length) (hb cs) H hn a0 (by omega) he).out;rw[List.set_set] at e1;have w1:=w64 (x:=l-1);simp only[push_cast,g0,g1,g2,g3,g4,g8,g9,g10,e1,w1,simprocAttr];exact⟨l-1,0,0,false,wp,cs2,by omega,by omega,H2,rfl,by simp[g0],by simp[g1],by simp[g2],by simp,by simp[g4],by simp[g8],by simp[g9],by simp[g10],fun h=>by cases h⟩
 clear g0 g1 g2 g3 g4 g8 g9 g10 g hl0 hlne l0 l1 l H wb wp cs;rintro g W ⟨l,p,u,wb,wp,cs,l0,l1,H,rfl,g0,g1,g2,g3,g4,g8,g9,g10,-⟩;refine post_mid hE.mono (PD166 h b n (Q:=Q) a e true) ?_ ?_
 ·obtain⟨v1,h1,e1,rfl,p,u,rfl,p1,p2⟩:=(c234 hE (lim:=h.length) (hb cs) H hn a0 (by omega) he).out;simp only[push_cast,g0,g1,g2,g3,g4,g8,g9,g10,e1,simprocAttr];exact⟨l,p,u,wb,wp,cs,l0,l1,H,rfl,by simp[g0],by simp[g1],by simp[g2],by simp[g3],by simp[g4],by simp[g8],by simp[g9],by simp[g10],fun _=>⟨by simp,by simp,p1,p2⟩⟩
 clear g0 g1 g2 g3 g4 g8 g9 g10 g l0 l1 l H wb wp cs p u;rintro g W ⟨l,p,u,wb,wp,cs,l0,l1,H,rfl,g0,g1,g2,g3,g4,g8,g9,g10,gp⟩;obtain⟨g11,g12,p1,p2⟩:=gp rfl;refine post_mid hE.mono (PD166 h b n (Q:=Q) a e true) ?_ ?_
 ·cases hu:(u==2) with
  | false =>
   simp only[push_cast,g0,g1,g2,g3,g4,g8,g9,g10,g11,g12,hu,simprocAttr];exact⟨l,p,u,wb,wp,cs,l0,l1,H,rfl,by simp[g0],by simp[g1],by simp[g2],by simp[g3],by simp[g4],by simp[g8],by simp[g9],by simp[g10],fun _=>⟨by simp[g11],by simp[g12],p1,p2⟩⟩
  | true =>
   obtain⟨v1,h1,e1,rfl,cs2,rfl,H2⟩:=(c235 hE (lim:=h.length) (hb cs) H hn a0 (by omega) he).out;rw[List.set_set] at e1;have w1:=w64 (x:=e-1);have w2:=w64 (x:=p-a);have w3:=w64 (x:=e-1-(p-a));simp only[push_cast,g0,g1,g2,g3,g4,g8,g9,g10,g11,g12,hu,e1,w1,w2,w3,simprocAttr];exact⟨l,e-1-(p-a),1,wb,wp,cs2,l0,l1,H2,rfl,by simp[g0],by simp[g1],by simp[g2],by simp[g3],by simp[g4],by simp[g8],by simp[g9],by simp[g10],fun _=>⟨by simp,by simp,by omega,by omega⟩⟩
 clear g0 g1 g2 g3 g4 g8 g9 g10 g11 g12 gp g l0 l1 l H wb wp cs p1 p2 p u;rintro g W ⟨l,p,u,wb,wp,cs,l0,l1,H,rfl,g0,g1,g2,g3,g4,g8,g9,g10,gp⟩;obtain⟨g11,g12,p1,p2⟩:=gp rfl;refine post_mid hE.mono (PD166 h b n (Q:=Q) a e true) ?_ ?_
 ·obtain⟨v1,h1,e1,r,cs2,rfl,rfl,H2⟩:=(c236 hE (lim:=h.length) (hb cs) H hn a0 (by omega) he).out;rw[List.set_set] at e1;cases wb with
  | false =>
   simp only[push_cast,g0,g1,g2,g3,g4,g8,g9,g10,g11,g12,simprocAttr];exact⟨l,p,u,false,wp,cs,l0,l1,H,rfl,by simp[g0],by simp[g1],by simp[g2],by simp[g3],by simp[g4],by simp[g8],by simp[g9],by simp[g10],fun _=>⟨by simp[g11],by simp[g12],p1,p2⟩⟩
  | true =>
   cases wp with
   | false =>
    simp only[push_cast,g0,g1,g2,g3,g4,g8,g9,g10,g11,g12,simprocAttr];exact⟨l,p,u,true,false,cs,l0,l1,H,rfl,by simp[g0],by simp[g1],by simp[g2],by simp[g3],by simp[g4],by simp[g8],by simp[g9],by simp[g10],fun _=>⟨by simp[g11],by simp[g12],p1,p2⟩⟩
   | true =>
    cases hu:(u==1) with
    | false =>
     simp only[push_cast,g0,g1,g2,g3,g4,g8,g9,g10,g11,g12,hu,simprocAttr];exact⟨l,p,u,true,true,cs,l0,l1,H,rfl,by simp[g0],by simp[g1],by simp[g2],by simp[g3],by simp[g4],by simp[g8],by simp[g9],by simp[g10],fun _=>⟨by simp[g11],by simp[g12],p1,p2⟩⟩
    | true =>
     cases r with
     | true =>
      simp only[push_cast,g0,g1,g2,g3,g4,g8,g9,g10,g11,g12,hu,e1,take_set,simprocAttr];exact⟨by first | rfl | trivial,cs2,rfl,H2⟩
     | false =>
      simp only[push_cast,g0,g1,g2,g3,g4,g8,g9,g10,g11,g12,hu,e1,simprocAttr];exact⟨l,p,u,true,true,cs2,l0,l1,H2,rfl,by simp[g0],by simp[g1],by simp[g2],by simp[g3],by simp[g4],by simp[g8],by simp[g9],by simp[g10],fun _=>⟨by simp[g11],by simp[g12],p1,p2⟩⟩
 clear g0 g1 g2 g3 g4 g8 g9 g10 g11 g12 gp g l0 l1 l H wb wp cs p1 p2 p u;rintro g W ⟨l,p,u,wb,wp,cs,l0,l1,H,rfl,g0,g1,g2,g3,g4,g8,g9,g10,gp⟩;obtain⟨g11,g12,p1,p2⟩:=gp rfl;refine post_mid hE.mono (PD166 h b n (Q:=Q) a e true) ?_ ?_
 ·by_cases ha:a>0
  ·have w1:=w64 (x:=a-1);obtain⟨iaa,iab,iag,ias⟩:=H.ix (i:=(a-1));obtain⟨ipa,ipb,ipg,ips⟩:=H.ix (i:=p);cases hl:decide (ordF (pv cs (a-1) 0) (pv cs (a-1) 1) (pv cs (a-1) 2) (pv cs (p) 0) (pv cs (p) 1) (pv cs (p) 2)<0) with
   | true =>
    simp only[push_cast,g0,g1,g2,g3,g4,g8,g9,g10,g11,g12,ha,w1,iaa,iab,iag,ias,ipa,ipb,ipg,ips,c108 hE,hl,set_get hlb,Nat.mul_one,simprocAttr];exact⟨l,p,u,wb,wp,cs,l0,l1,H,rfl,by simp[g0],by simp[g1],by simp[g2],by simp[g3],by simp[g4],by simp[g8],by simp[g9],by simp[g10],fun _=>⟨by simp[g11],by simp[g12],p1,p2⟩⟩
   | false =>
    obtain⟨v1,h1,e1,m,cs2,rfl,m1,m2,rfl,H2⟩:=(c237 hE (lim:=h.length) (hb cs) H hn a0 (by omega) he p1 p2).out;rw[List.set_set] at e1;simp only[push_cast,g0,g1,g2,g3,g4,g8,g9,g10,g11,g12,ha,w1,iaa,iab,iag,ias,ipa,ipb,ipg,ips,c108 hE,hl,set_get hlb,Nat.mul_one,e1,simprocAttr];exact⟨_,(by omega:(e-m).toNat<q),m,e,l,wb,wp,cs2,by omega,by omega,he,by omega,rfl,l0,l1,H2,rfl,rfl,rfl,rfl,rfl,rfl⟩
  ·simp only[push_cast,g0,g1,g2,g3,g4,g8,g9,g10,g11,g12,ha,simprocAttr];exact⟨l,p,u,wb,wp,cs,l0,l1,H,rfl,by simp[g0],by simp[g1],by simp[g2],by simp[g3],by simp[g4],by simp[g8],by simp[g9],by simp[g10],fun _=>⟨by simp[g11],by simp[g12],p1,p2⟩⟩
 clear g0 g1 g2 g3 g4 g8 g9 g10 g11 g12 gp g l0 l1 l H wb wp cs p1 p2 p u;rintro g W ⟨l,p,u,wb,wp,cs,l0,l1,H,rfl,g0,g1,g2,g3,g4,g8,g9,g10,gp⟩;obtain⟨g11,g12,p1,p2⟩:=gp rfl;obtain⟨v1,h1,e1,m,al,cs2,rfl,m1,m2,rfl,H2⟩:=(c238 hE (lim:=h.length) (hb cs) H hn a0 (by omega) he p1 p2).out;rw[List.set_set] at e1;have w1:=w64 (x:=m-a);have w2:=w64 (x:=e-m);have w3:=w64 (x:=m+1)
 by_cases hlt:m-a<e-m
 ·obtain⟨v2,h2,e2,rfl,cs3,rfl,H3⟩:=(ih (m-a).toNat (by omega) h.length _ cs2 a m l (hb cs2) H2 a0 m1 (by omega) l0 l1 (Nat.le_refl _)).out;rw[List.set_set] at e2;simp only[push_cast,g0,g1,g2,g3,g4,g8,g9,g10,g11,g12,e1,w1,w2,w3,hlt,e2,simprocAttr];exact⟨_,(by omega:(e-(m+1)).toNat<q),m+1,e,l,_,al,cs3,by omega,by omega,he,by omega,rfl,l0,l1,H3,rfl,rfl,rfl,rfl,rfl,rfl⟩
 ·obtain⟨v2,h2,e2,rfl,cs3,rfl,H3⟩:=(ih (e-(m+1)).toNat (by omega) h.length _ cs2 (m+1) e l (hb cs2) H2 (by omega) (by omega) he l0 l1 (Nat.le_refl _)).out;rw[List.set_set] at e2;simp only[push_cast,g0,g1,g2,g3,g4,g8,g9,g10,g11,g12,e1,w1,w2,w3,hlt,e2,simprocAttr];exact⟨_,(by omega:(m-a).toNat<q),a,m,l,_,al,cs3,by omega,by omega,by omega,by omega,rfl,l0,l1,H3,rfl,rfl,rfl,rfl,rfl,rfl⟩
end
end Go.Ab
