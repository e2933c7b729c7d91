/- What Go code of this program comes to on a small machine that its translation simulates (a part of the proof of a law of its timers). No condition. -/
import Derived.Test.YthbopkpamlbjoaaGreatDoorP05
set_option linter.unusedSimpArgs false
set_option linter.unusedVariables false
set_option linter.unusedSectionVars false
set_option maxHeartbeats 4000000
namespace Go.Ab
section
open Tb
def iv (cs:List Value)(i:Int):Int:=match cs[i.toNat]? with
 | some (.int _ x)=>x
 | _=>0
structure RowI (Q:Int->Prop)(N:Nat)(cs:List Value)(n:Nat):Prop where
 tot:cs.length=N
 len:n<=cs.length
 all:∀j,j<N->∃x,cs[j]?=some (.int .i64 x)
 q:∀j x,j<n->cs[j]?=some (.int .i64 x)->Q x
theorem RowI.both {Q:Int->Prop}{N:Nat}{cs:List Value}{n:Nat}(H:RowI Q N cs n){i:Int}(h0:0<=i)(h1:i<n):cs[i.toNat]?=some (.int .i64 (iv cs i))/\Q (iv cs i):=by
 obtain⟨x,e⟩:=H.all i.toNat (by have:=H.tot; have:=H.len; omega);have:iv cs i=x:=by unfold iv; rw[e]
 rw[this];exact⟨e,H.q _ _ (by omega) e⟩
theorem RowI.get {Q:Int->Prop}{N:Nat}{cs:List Value}{n:Nat}(H:RowI Q N cs n){i:Int}(h0:0<=i)(h1:i<n):cs[i.toNat]?=some (.int .i64 (iv cs i)):=(H.both h0 h1).1
theorem RowI.set {Q:Int->Prop}{N:Nat}{cs:List Value}{n:Nat}(H:RowI Q N cs n){x:Int}(hx:Q x)(k:Nat):RowI Q N (cs.set k (.int .i64 x)) n:=by
 have h1:=H.tot;have h2:=H.len;refine⟨by rw[List.length_set]; exact h1,by rw[List.length_set]; exact h2,fun j hj=>?_,fun j y hj hy=>?_⟩
 ·by_cases e:k=j
  ·subst e;exact⟨x,List.getElem?_set_self (by omega)⟩
  ·rw[List.getElem?_set_ne e];exact H.all j hj
 ·by_cases e:k=j
  ·subst e;rw[List.getElem?_set_self (by omega)] at hy;cases hy;exact hx
  ·rw[List.getElem?_set_ne e] at hy;exact H.q j y hj hy
theorem RowI.swap {Q:Int->Prop}{N:Nat}{cs:List Value}{n:Nat}(H:RowI Q N cs n){x y:Int}(x0:0<=x:=by omega)(x1:x<n:=by omega)(y0:0<=y:=by omega)(y1:y<n:=by omega) :
  RowI Q N ((cs.set x.toNat (.int .i64 (iv cs y))).set y.toNat (.int .i64 (iv cs x))) n:=(H.set (H.both y0 y1).2 _).set (H.both x0 x1).2 _
theorem RowI.fits {Q:Int->Prop}{N:Nat}{cs:List Value}{n:Nat}(H:RowI Q N cs n){i:Int}(h0:0<=i)(h1:i<n):(i.toNat+1<=cs.length)=True:=eq_true (by have:=H.len; omega)
theorem RowI.ix {Q:Int->Prop}{N:Nat}{cs:List Value}{n:Nat}(H:RowI Q N cs n){i:Int}(h0:0<=i:=by omega)(h1:i<n:=by omega):((0<=i)=True)/\((i<(n:Int))=True)/\cs[i.toNat]?=some (.int .i64 (iv cs i))/\(i.toNat+1<=cs.length)=True:=⟨eq_true h0,eq_true h1,H.get h0 h1,H.fits h0 h1⟩
theorem RowI.ints {Q:Int->Prop}{N:Nat}{cs:List Value}{n:Nat}(H:RowI Q N cs n):∃xs,cs=ints xs/\xs.length=N/\∀j,j<n->Q (xs.getD j 0):=by
 have h1:=H.tot;have h2:=H.len
 have e:cs=Ab.ints ((List.range N).map fun j:Nat=>iv cs j):=by
  apply List.ext_getElem?;intro i
  by_cases hi:i<N
  ·obtain⟨x,ex⟩:=H.all i hi;have:iv cs i=x:=by unfold iv; rw[Int.toNat_natCast,ex]
   rw[ex];simp[Ab.ints,hi,this]
  ·rw[List.getElem?_eq_none (by omega),List.getElem?_eq_none (by simp[Ab.ints]; omega)]
 refine⟨_,e,by simp,fun j hj=>?_⟩;have:=(H.both (i:=j) (by omega) (by omega)).2;simpa[List.getD_eq_getElem?_getD,show j<N by omega] using this
def pv (cs:List Value)(i:Int)(k:Nat):Int:=match cs[i.toNat*3+k]? with
 | some (.int _ x)=>x
 | _=>0
structure RowT (Q:Int->Int->Int->Prop)(cs:List Value)(n:Nat):Prop where
 len:n*3<=cs.length
 el:∀j,j<n->∃a b c,cs[j*3]?=some (.int .i64 a)/\cs[j*3+1]?=some (.int .i64 b)/\cs[j*3+2]?=some (.int .i64 c)/\Q a b c
theorem take3 {cs:List Value}{o:Nat}{a b c:Value}(h0:cs[o]?=some a)(h1:cs[o+1]?=some b)(h2:cs[o+2]?=some c):(cs.drop o).take 3=[a,b,c]:=by
 apply List.ext_getElem?;intro i;rw[List.getElem?_take]
 match i with
 | 0=>simp[h0]
 | 1=>simp[h1]
 | 2=>simp[h2]
 | i+3=>rw[if_neg (by omega)]; simp
theorem RowT.both {Q:Int->Int->Int->Prop}{cs:List Value}{n:Nat}(H:RowT Q cs n){i:Int}(h0:0<=i)(h1:i<n):(cs.drop (i.toNat*3)).take 3=[.int .i64 (pv cs i 0),.int .i64 (pv cs i 1),.int .i64 (pv cs i 2)]/\Q (pv cs i 0) (pv cs i 1) (pv cs i 2):=by
 obtain⟨a,b,c,e0,e1,e2,q⟩:=H.el i.toNat (by omega);have k0:pv cs i 0=a:=by unfold pv; rw[Nat.add_zero,e0]
 have k1:pv cs i 1=b:=by unfold pv; rw[e1]
 have k2:pv cs i 2=c:=by unfold pv; rw[e2]
 rw[k0,k1,k2];exact⟨take3 e0 e1 e2,q⟩
theorem RowT.get {Q:Int->Int->Int->Prop}{cs:List Value}{n:Nat}(H:RowT Q cs n){i:Int}(h0:0<=i)(h1:i<n):(cs.drop (i.toNat*3)).take 3=[.int .i64 (pv cs i 0),.int .i64 (pv cs i 1),.int .i64 (pv cs i 2)]:=(H.both h0 h1).1
theorem RowT.set {Q:Int->Int->Int->Prop}{cs:List Value}{n:Nat}(H:RowT Q cs n){a b c:Int}(hx:Q a b c){k:Nat}(hk:k<n):RowT Q (((cs.set (k*3) (.int .i64 a)).set (k*3+1) (.int .i64 b)).set (k*3+1+1) (.int .i64 c)) n:=by
 have hl:=H.len;refine⟨by simpa using H.len,fun j hj=>?_⟩
 by_cases e:k=j
 ·subst e;refine⟨a,b,c,?_,?_,?_,hx⟩
  ·rw[List.getElem?_set_ne (by omega),List.getElem?_set_ne (by omega),List.getElem?_set_self (by omega)]
  ·rw[List.getElem?_set_ne (by omega),List.getElem?_set_self (by simp; omega)]
  ·rw[List.getElem?_set_self (by simp; omega)]
 ·obtain⟨a',b',c',e0,e1,e2,q⟩:=H.el j hj;refine⟨a',b',c',?_,?_,?_,q⟩
  ·rw[List.getElem?_set_ne (by omega),List.getElem?_set_ne (by omega),List.getElem?_set_ne (by omega)]; exact e0
  ·rw[List.getElem?_set_ne (by omega),List.getElem?_set_ne (by omega),List.getElem?_set_ne (by omega)]; exact e1
  ·rw[List.getElem?_set_ne (by omega),List.getElem?_set_ne (by omega),List.getElem?_set_ne (by omega)]; exact e2
theorem RowT.swap {Q:Int->Int->Int->Prop}{cs:List Value}{n:Nat}(H:RowT Q cs n){x y:Int}(x0:0<=x:=by omega)(x1:x<n:=by omega)(y0:0<=y:=by omega)(y1:y<n:=by omega) :
  RowT Q ((((((cs.set (x.toNat*3) (.int .i64 (pv cs y 0))).set (x.toNat*3+1) (.int .i64 (pv cs y 1))).set (x.toNat*3+1+1) (.int .i64 (pv cs y 2))).set (y.toNat*3) (.int .i64 (pv cs x 0))).set (y.toNat*3+1) (.int .i64 (pv cs x 1))).set (y.toNat*3+1+1) (.int .i64 (pv cs x 2))) n :=
 (H.set (H.both y0 y1).2 (by omega)).set (H.both x0 x1).2 (by omega)
theorem RowT.fits {Q:Int->Int->Int->Prop}{cs:List Value}{n:Nat}(H:RowT Q cs n){i:Int}(h0:0<=i)(h1:i<n):(i.toNat*3+3<=cs.length)=True:=eq_true (by have:=H.len; omega)
theorem RowT.ix {Q:Int->Int->Int->Prop}{cs:List Value}{n:Nat}(H:RowT Q cs n){i:Int}(h0:0<=i:=by omega)(h1:i<n:=by omega):((0<=i)=True)/\((i<(n:Int))=True)/\(cs.drop (i.toNat*3)).take 3=[.int .i64 (pv cs i 0),.int .i64 (pv cs i 1),.int .i64 (pv cs i 2)]/\(i.toNat*3+3<=cs.length)=True:=⟨eq_true h0,eq_true h1,H.get h0 h1,H.fits h0 h1⟩
def midP (Q:Fr->Hp->Prop)(P:AX->Fr->Hp->Prop)(x:AX)(f:Fr)(h:Hp):Prop:=match x with
 | .norm=>Q f h
 | x=>P x f h
theorem midP_norm {Q:Fr->Hp->Prop}{P:AX->Fr->Hp->Prop}{f:Fr}{h:Hp}:midP Q P .norm f h=Q f h:=rfl
theorem midP_ret {Q:Fr->Hp->Prop}{P:AX->Fr->Hp->Prop}{f:Fr}{h:Hp}:midP Q P .ret f h=P .ret f h:=rfl
theorem midP_exit {Q:Fr->Hp->Prop}{P:AX->Fr->Hp->Prop}{f:Fr}{h:Hp}{i:Nat}:midP Q P (.exit i) f h=P (.exit i) f h:=rfl
attribute [push_cast] midP_norm midP_ret midP_exit
theorem post_mid {E:Env}(hM:EnvMono E){lim:Nat}{a b:AC}{f:Fr}{h:Hp}{P:AX->Fr->Hp->Prop}(Q:Fr->Hp->Prop)(h1:Post (evK E lim a f h) (midP Q P))(h2:∀f h,Q f h->Post (evK E lim b f h) P):Post (evK E lim (.seq a b) f h) P:=by
 rw[evK_seq' hM,post_seqK];refine h1.mono fun x f h hp=>?_;cases x with
 | norm=>exact h2 f h hp
 | exit i=>exact hp
 | ret=>exact hp
theorem post_blk {E:Env}(hM:EnvMono E){lim id:Nat}{a:AC}{f:Fr}{h:Hp}{P:AX->Fr->Hp->Prop}(h1:Post (evK E lim a f h) (blkP id P)):Post (evK E lim (.block id a) f h) P:=by
 rw[evK_block hM,post_blockK];exact h1
def LenOk (E:Env):Prop:=∀(lim:Nat) (h:Hp) (n:Int),0<=n->n<1000000->∃k:Nat,evI E lim (.func 167) [.int .u64 n] h=some (.int .i64 k,h)/\k<=62/\(1<=n->((2 ^ k:Nat):Int)<=2*n)
end
end Go.Ab
