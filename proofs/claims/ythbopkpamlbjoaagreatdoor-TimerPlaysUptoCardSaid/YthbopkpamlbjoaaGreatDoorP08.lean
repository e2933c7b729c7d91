/- What Go code of this program comes to on a small machine that its translation simulates (a part of the proof of a law of its timers). No condition. -/
import Derived.Test.YthbopkpamlbjoaaGreatDoorP04
import Derived.Test.YthbopkpamlbjoaaGreatDoorP06
import Derived.Test.YthbopkpamlbjoaaGreatDoorP07
set_option linter.unusedSimpArgs false
set_option linter.unusedVariables false
set_option linter.unusedSectionVars false
set_option maxHeartbeats 4000000
namespace Go.Ab
section
open Tb
theorem eqT (a b c d e f:Int):eqV true [.int .i64,.int .i64,.int .i64] (.agg #[.int .i64 a,.int .i64 b,.int .i64 c]) (.agg #[.int .i64 d,.int .i64 e,.int .i64 f])=some ((a==d)&&((b==e)&&((c==f)&&true))):=rfl
theorem lay_len:∀(vs cs:List Value) (o:Nat),(lay cs o vs).length=cs.length
 | [],cs,o=>rfl
 | v::vs,cs,o=>by rw[lay,lay_len vs,List.length_set]
theorem lay_low:∀(vs cs:List Value) (o j:Nat),j<o->(lay cs o vs)[j]?=cs[j]?
 | [],cs,o,j,h=>rfl
 | v::vs,cs,o,j,h=>by rw[lay,lay_low vs _ _ _ (by omega),List.getElem?_set_ne (by omega)]
theorem RowT.lay {Q:Int->Int->Int->Prop}{cs:List Value}{n:Nat}(H:RowT Q cs n){w:Nat}(hw:w<=n)(vs:List Value):RowT Q (lay cs (w*3) vs) w:=by
 refine⟨by rw[lay_len]; have:=H.len; omega,fun j hj=>?_⟩;obtain⟨a,b,c,e0,e1,e2,q⟩:=H.el j (by omega);exact⟨a,b,c,by rw[lay_low _ _ _ _ (by omega)]; exact e0,by rw[lay_low _ _ _ _ (by omega)]; exact e1,by rw[lay_low _ _ _ _ (by omega)]; exact e2,q⟩
theorem repl3_len (m:Nat):(repl m [Value.int .i64 0,.int .i64 0,.int .i64 0]).length=m*3:=by
 induction m with
 | zero=>rfl
 | succ m ih=>simp only[repl,List.replicate_succ,List.flatten_cons,List.length_append,List.length_cons,List.length_nil] at ih ⊢; omega
theorem repl3_single (m:Nat):(repl m [Value.int .i64 0,.int .i64 0,.int .i64 0]).all single=true:=by induction m<;>simp_all [repl,List.replicate_succ,single]
theorem repl3_flat (m:Nat):(repl m [Value.int .i64 0,.int .i64 0,.int .i64 0]).all flat1=true:=by induction m<;>simp_all [repl,List.replicate_succ,flat1]
theorem RowT.getN {Q:Int->Int->Int->Prop}{cs:List Value}{n:Nat}(H:RowT Q cs n){i:Nat}(h1:i<n):(cs.drop (i*3)).take 3=[.int .i64 (pv cs i 0),.int .i64 (pv cs i 1),.int .i64 (pv cs i 2)]:=by
 have:=H.get (i:=(i:Int)) (by omega) (by omega)
 rwa [Int.toNat_natCast] at this
theorem RowT.fitsN {Q:Int->Int->Int->Prop}{cs:List Value}{n:Nat}(H:RowT Q cs n){i:Nat}(h1:i<n):(i*3+3<=cs.length)=True:=eq_true (by have:=H.len; omega)
def PartOk (E:Env):Prop:=∀(lim:Nat) (h:Hp) (b n:Nat) (cs:List Value) (Q:Int->Int->Int->Prop),h[b]?=some (.cells true cs)->RowT Q cs n->n<1000000 ->
 PostV (evI E lim (.func 107) [.slice (some ⟨b,0,none⟩) n 3,.func (.func 108) #[] #[]] h) fun v h'=>v=undef/\∃cs',h'=h.set b (.cells true cs')/\RowT Q cs' n
def PartNil (E:Env):Prop:=∀(lim:Nat) (h:Hp),evI E lim (.func 107) [.slice none 0 0,.func (.func 108) #[] #[]] h=some (undef,h)
variable {E:Env}(hE:EnvT E){lim:Nat}{h:Hp}
include hE
theorem c109 {b n:Nat}{cs:List Value}{Q:Int->Int->Int->Prop}(hb:h[b]?=some (.cells true cs))(H:RowT Q cs n)(hn:n<1000000) :
  PostV (evI E lim (.func 109) [.slice (some ⟨b,0,none⟩) n 3] h) fun v h'=>∃(n':Nat) (cs':List Value),v=.slice (some ⟨b,0,none⟩) n' 3/\n'<=n/\h'=h.set b (.cells true cs')/\RowT Q cs' n':=by
 have hlt:=lt_of_get hb
 by_cases h2:n<2
 ·have g1:((n:Int)<2)=True:=by simp; omega
  rw[hE.fn T109]; simp +contextual only[push_cast,ac109,g1,simprocAttr];exact⟨n,cs,rfl,Nat.le_refl _,(set_same hb).symm,H⟩
 ·have g1:((n:Int)<2)=False:=by simp; omega
  rw[hE.fn T109]; simp +contextual only[push_cast,ac109,g1,simprocAttr];refine loop_post hE.mono (fun k f X=>∃i:Nat,1<=i/\i<=n/\n-i=k/\f.rd 0=.slice (some ⟨b,0,none⟩) n 3/\f.rd 3=.int .i64 i/\X=h) ?_ (n-1) _ _ ?_
  ·rintro k f X ⟨i,i1,i2,hk,f0,f3,rfl⟩
   by_cases hin:i<n
   ·have a1:((i:Int)<n)=True:=by simp[hin]
    have a2:(0<=(i:Int))=True:=by simp
    have a3:IntKind.i64.wrap ((i:Int)-1)=((i-1:Nat):Int):=by rw[wrap64 (by omega) (by omega)]; omega
    have a4:(((i-1:Nat):Int)<n)=True:=by simp; omega
    have a5:(0<=((i-1:Nat):Int))=True:=by simp
    have a6:=H.getN (i:=i) hin;have a7:=H.getN (i:=i-1) (by omega);have a6s:=H.fitsN (i:=i) hin;have a7s:=H.fitsN (i:=i-1) (by omega);have a8:=wn1 (i:=i);have a9:((i:Int)<=n)=True:=by simp; omega
    obtain⟨r,hr⟩:∃r,(pv cs i 0==pv cs (i-1:Nat) 0&&(pv cs i 1==pv cs (i-1:Nat) 1&&(pv cs i 2==pv cs (i-1:Nat) 2)))=r:=⟨_,rfl⟩;cases r with
    | false =>
     simp only[push_cast,lp109_1,f0,f3,a1,a2,a3,a4,a5,a6,a7,a6s,a7s,a8,hb,eqT,hr,simprocAttr];exact⟨n-(i+1),by omega,i+1,by omega,by omega,rfl,rfl⟩
    | true =>
     simp only[push_cast,lp109_1,f0,f3,a1,a2,a3,a4,a5,a6,a7,a6s,a7s,a9,hb,eqT,hr,bound,Option.map_none,Int.le_refl,simprocAttr];refine loop_post hE.mono (fun k f Y=>∃(w j:Nat) (ys:List Value),1<=w/\1<=j/\j<=n-i/\w+1<=i+j/\n-i-j=k/\f.rd 0=.slice (some ⟨b,0,none⟩) n 3/\f.rd 3=.int .i64 w/\f.rd 4=.slice (some ⟨b,i*3,none⟩) (n-i) 3/\f.rd 5=.int .i64 j/\Y=X.set b (.cells true ys)/\RowT Q ys n) ?_ (n-i-1) _ _ ?_
     ·clear a1 a2 a3 a4 a5 a6 a7 a8 a9 a6s a7s hr;rintro k f Y ⟨w,j,ys,w1,j1,j2,hwj,hk,f0,f3,f4,f5,rfl,Hy⟩
      by_cases hjn:j<n-i
      ·have a1:((j:Int)<((n-i:Nat):Int))=True:=by simp; omega
       have a2:(0<=(j:Int))=True:=by simp
       have a3:IntKind.i64.wrap ((j:Int)-1)=((j-1:Nat):Int):=by rw[wrap64 (by omega) (by omega)]; omega
       have a4:(((j-1:Nat):Int)<((n-i:Nat):Int))=True:=by simp; omega
       have a5:(0<=((j-1:Nat):Int))=True:=by simp
       obtain⟨p,hp⟩:∃p,p=i+j:=⟨_,rfl⟩;obtain⟨p',hp'⟩:∃p',p'=i+(j-1):=⟨_,rfl⟩;have a6:=Hy.getN (i:=p) (by omega);have a7:=Hy.getN (i:=p') (by omega);have a6s:=Hy.fitsN (i:=p) (by omega);have a7s:=Hy.fitsN (i:=p') (by omega);have p1:i*3+j*3=p*3:=by omega
       have p2:i*3+(j-1)*3=p'*3:=by omega
       have a8:=wn1 (i:=j);have a9:=wn1 (i:=w);have b1:((w:Int)<n)=True:=by simp; omega
       have b2:(0<=(w:Int))=True:=by simp
       have b3:=Hy.fitsN (i:=w) (by omega);obtain⟨r,hr⟩:∃r,(pv ys p 0==pv ys p' 0&&(pv ys p 1==pv ys p' 1&&(pv ys p 2==pv ys p' 2)))=r:=⟨_,rfl⟩;cases r with
       | true =>
        simp only[push_cast,lp109_0,f0,f3,f4,f5,a1,a2,a3,a4,a5,p1,p2,a6,a7,a6s,a7s,a8,set_get hlt,eqT,hr,simprocAttr];exact⟨n-i-(j+1),by omega,w,j+1,ys,by omega,by omega,by omega,by omega,rfl,rfl,rfl,rfl,Hy⟩
       | false =>
        simp only[push_cast,lp109_0,f0,f3,f4,f5,a1,a2,a3,a4,a5,p1,p2,a6,a7,a6s,a7s,a8,a9,b1,b2,b3,set_get hlt,eqT,hr,simprocAttr];exact⟨n-i-(j+1),by omega,w+1,j+1,_,by omega,by omega,by omega,by omega,rfl,rfl,rfl,rfl,Hy.set (Hy.both (i:=(p:Int)) (by omega) (by omega)).2 (by omega)⟩
      ·have a1:((j:Int)<((n-i:Nat):Int))=False:=by simp; omega
       have b1:(0<=(w:Int))=True:=by simp
       have b2:((w:Int)<=n)=True:=by simp; omega
       have b4:(w*3+(repl (n-w) [Value.int .i64 0,.int .i64 0,.int .i64 0]).length<=ys.length)=True:=eq_true (by rw[repl3_len]; have:=Hy.len; omega);have b5:w<=n:=by omega
       simp only[push_cast,lp109_0,f0,f3,f4,f5,a1,bound,b1,b2,b4,b5,Option.map_none,set_get hlt,repl3_single,repl3_flat,Nat.sub_zero,Nat.zero_le,Int.le_refl,Nat.zero_mul,Int.ofNat_le,simprocAttr];exact⟨w,_,rfl,by omega,rfl,Hy.lay (by omega) _⟩
     ·exact⟨i,1,cs,by omega,by omega,by omega,by omega,rfl,by simp +contextual only[push_cast,f0,simprocAttr],by simp +contextual only[push_cast,f3,simprocAttr],by simp +contextual only[push_cast,simprocAttr],by simp +contextual only[push_cast,simprocAttr],(set_same hb).symm,H⟩
   ·have:i=n:=by omega
    subst this;simp +contextual only[push_cast,lp109_1,f0,f3,Int.lt_irrefl,simprocAttr];exact⟨i,cs,rfl,Nat.le_refl _,(set_same hb).symm,H⟩
  ·exact⟨1,by omega,by omega,rfl,rfl,rfl,rfl⟩
theorem c109_nil:evI E lim (.func 109) [.slice none 0 0] h=some (.slice none 0 0,h):=by
 rw[hE.fn T109]; simp +contextual only[push_cast,ac109,simprocAttr]
end
section
open Tb
theorem SBc.set4 {X:Hp}{br bs:Nat}{cs:List Value}(H:SBc X br bs cs)(b:Bool):SBc X br bs (cs.set 4 (.bool b)):=by
 have hl9:=H.len;refine⟨by rw[List.length_set]; exact H.len,?_,⟨b,List.getElem?_set_self (by omega)⟩,?_,fun j hj=>?_⟩
 ·rw[List.getElem?_set_ne (by omega)]; exact H.c0
 ·rw[List.getElem?_set_ne (by omega)]; exact H.c8
 ·rw[List.getElem?_set_ne (by unfold FieldK at hj; omega)];exact H.row j hj
def allF (bs:Nat):List Value:=[.int .i64 1970,.int .i64 2199,.int .i64 1,.int .i64 4,.pointer (some ⟨bs,1,none⟩),.int .i64 1,.int .i64 12,.int .i64 1,.int .i64 2,.pointer (some ⟨bs,2,none⟩),.int .i64 1,.int .i64 31,.int .i64 1,.int .i64 2,.pointer (some ⟨bs,3,none⟩),.int .i64 0,.int .i64 23,.int .i64 1,.int .i64 2,.pointer (some ⟨bs,5,none⟩),.int .i64 0,.int .i64 59,.int .i64 1,.int .i64 2,.pointer (some ⟨bs,6,none⟩),.int .i64 0,.int .i64 59999999,.int .i64 1000000,.int .i64 2,.pointer (some ⟨bs,7,none⟩)]
theorem f3_date (bs:Nat):F3 (allF bs) 0 bs (fun i=>if i=0 then 1970 else 1) (fun i=>if i=0 then 2199 else if i=1 then 12 else 31) (fun _=>1) (fun i=>if i=0 then 4 else 2) (fun i=>i+1):=by
 refine⟨fun i hi=>?_,fun i hi=>by unfold FieldK; omega,fun i hi=>by omega⟩;have:i=0\/i=1\/i=2:=by omega
 rcases this with rfl | rfl | rfl<;>exact⟨by simp[allF],rfl⟩
theorem f3_time (bs:Nat):F3 (allF bs) 15 bs (fun _=>0) (fun i=>if i=0 then 23 else if i=1 then 59 else 59999999) (fun i=>if i=2 then 1000000 else 1) (fun _=>2) (fun i=>i+5):=by
 refine⟨fun i hi=>?_,fun i hi=>by unfold FieldK; omega,fun i hi=>by split<;>omega⟩;have:i=0\/i=1\/i=2:=by omega
 rcases this with rfl | rfl | rfl<;>exact⟨by simp[allF],rfl⟩
theorem SB.grow {X:Hp}{br bs:Nat}(H:SB X br bs)(l:Hp):SB (X++l) br bs:=by
 obtain⟨cs,e,c⟩:=H.cs;obtain⟨b,eb⟩:=H.bad;exact⟨⟨cs,get_old e,c.of fun j hj _ _=>get_lt hj⟩,⟨b,get_old eb⟩⟩
variable {E:Env}(hE:EnvT E){lim:Nat}{h:Hp}
include hE
theorem c55' (b:Nat)(hlim:lim<=h.length):∃l,evI E lim (.func 55) [.pointer (some ⟨b,0,none⟩)] h=some (.agg (allF b).toArray,h++l):=c55 hE b hlim
omit hE in
theorem SB.keep {X X':Hp} {br bs:Nat} (H:SB X br bs) (ho:∀j,j<X.length->X'[j]?=X[j]?):SB X' br bs:=by
 obtain⟨cs,e,c⟩:=H.cs;obtain⟨b,eb⟩:=H.bad;exact⟨⟨cs,(ho _ (lt_of_get e)).trans e,c.of fun j hj _ _=>ho j hj⟩,⟨b,(ho _ (lt_of_get eb)).trans eb⟩⟩
omit hE in
theorem sget_app {xs:List ByteArray} {x:ByteArray} {m:Nat} (h:∀j,(xs.getD j ⟨#[]⟩).size<m) (hx:x.size<m) (j:Nat):((xs++[x]).getD j ⟨#[]⟩).size<m:=by
 rw[List.getD_eq_getElem?_getD,List.getElem?_append];split
 ·have:=h j; rwa [List.getD_eq_getElem?_getD] at this
 ·cases hj:j-xs.length with
  | zero=>simpa using hx
  | succ k=>have:=h (xs.length+1+k+0); simp; show 0<m; omega
omit hE in
theorem sget_cons {xs:List ByteArray} {x:ByteArray} {m:Nat} (h:∀j,(xs.getD j ⟨#[]⟩).size<m) (hx:x.size<m) (j:Nat):((x::xs).getD j ⟨#[]⟩).size<m:=by
 cases j with
 | zero=>exact hx
 | succ j=>exact h j
def DT (h:Hp)(br bs:Nat)(g:Fr)(W:Hp):Prop:=∃(b:Nat) (xs:List ByteArray),SB W br bs/\W[b]?=some (.cells true (strs xs))/\1<=xs.length/\xs.length<850000/\(∀j,(xs.getD j ⟨#[]⟩).size<900000)/\h.length<=b/\(∀j,j<h.length->j≠bs->j≠br->W[j]?=h[j]?)/\h.length<=W.length /\
 g.rd 0=.pointer (some ⟨br,0,none⟩)/\g.rd 1=.pointer (some ⟨bs,0,none⟩)/\g.rd 9=.slice (some ⟨b,0,none⟩) xs.length 1
omit hE in
theorem post_fn (hE:EnvT E) {g:FuncId} {fn:AFn} (hT:envT g=some fn) {args:List Value} {R:Value->Hp->Prop} (ha:args.length<=fn.n) (h1:Post (evK E (if fn.keep then lim else h.length) fn.ac args h) (retP fn.keep h fn.res R)):PostV (evI E lim (.func g) args h) R:=by
 rw[hE.fn hT,if_pos ha,post_retK];exact h1
theorem c53 (hI:IdxOk E)(hC:CntOk E)(hD:DecOk E)(hP:ParseOk E){br bs:Nat}(hS:SB h br bs)(n1:br≠bs)(hlim:lim<=bs)(hlim2:lim<=br)(s:ByteArray)(hs:s.size<800000) :
  PostV (evI E lim (.func 53) [.pointer (some ⟨br,0,none⟩),.pointer (some ⟨bs,0,none⟩),.string s] h) fun v h'=>v=undef/\SB h' br bs/\(∀j,j<h.length->j≠bs->j≠br->h'[j]?=h[j]?)/\h.length<=h'.length:=by
 obtain⟨hd,tl,en,e99,y1,y2⟩:=c99 hE hI (lim:=lim) (h:=h) s ⟨#[126]⟩ (by omega) (by show 1<1000000; omega);obtain⟨cs,ws,wc⟩:=hS.cs;obtain⟨bad,wr⟩:=hS.bad;have ls:=lt_of_get ws;have lr:=lt_of_get wr;have hl9:=wc.len;obtain⟨v,h',e54,ts,rfl,rfl,t1,t2,t3⟩:=(c54 hE hI hC (lim:=lim) (h:=h) hd 45 (by omega) (by omega)).out;have x2:∀q:Prop,(lim<=bs\/q)=True:=fun q=>by simp[hlim]
 have x3:(4+1<=cs.length)=True:=by simp; omega
 refine post_fn hE T53 (Nat.le_of_ble_eq_true rfl) ?_;show Post (evK E lim ac53 _ _) _;unfold ac53;refine post_mid hE.mono (fun g W=>h=W/\g.rd 0=.pointer (some ⟨br,0,none⟩)/\g.rd 1=.pointer (some ⟨bs,0,none⟩)/\g.rd 6=.string hd/\g.rd 7=.string tl/\g.rd 8=.bool en) (by simp only[push_cast,e99,simprocAttr]) ?_;rintro g W ⟨rfl,g0,g1,g6,g7,g8⟩;refine post_mid hE.mono (fun g W=>h++[.cells true (strs ts)]=W/\g.rd 0=.pointer (some ⟨br,0,none⟩)/\g.rd 1=.pointer (some ⟨bs,0,none⟩)/\g.rd 7=.string tl/\g.rd 8=.bool en/\g.rd 9=.slice (some ⟨h.length,0,none⟩) ts.length 1) (by simp only[push_cast,g0,g1,g6,g7,g8,e54,simprocAttr]) ?_;clear g0 g1 g6 g7 g8 g;rintro g W ⟨rfl,g0,g1,g7,g8,g9⟩;refine post_mid hE.mono (DT h br bs) ?_ ?_
 ·cases en with
  | false =>
   simp only[push_cast,g0,g1,g7,g8,g9,simprocAttr];exact⟨h.length,ts,hS.grow _,get_app0,t1,by omega,fun j=>by have:=t3 j; omega,Nat.le_refl _,fun j j1 _ _=>get_lt j1,by simp,by simp[g0],by simp[g1],by simp[g9]⟩
  | true =>
   have k1:∀x l,(h++l).set bs x=h.set bs x++l:=fun x l=>set_old ls;have k2:∀l,(h++l)[bs]?=some (.cells true cs):=fun l=>get_old ws;have k3:∀(x:Blk) (l:Hp),(h.set bs x++l)[h.length]?=l[0]?:=fun x l=>get_appC0 (by simp);have k4:∀(x:Blk) (l:Hp) (k:Nat),(h.set bs x++l)[h.length+k]?=l[k]?:=fun x l k=>get_appC (by simp);have k5:∀(x:Blk) (l:Hp) (y:Blk),(h.set bs x++l).set h.length y=h.set bs x++l.set 0 y:=fun x l y=>set_appC0 (by simp);have k6:((ts.length+1)*16<=140737488355328)=True:=by simp; omega
   simp only[push_cast,g0,g1,g7,g8,g9,k1,k2,k3,k4,k5,k6,x2,x3,srcOf,strs_len,len_cons,Nat.mul_one,simprocAttr];refine⟨h.length+2,ts++[tl],SB.keep (X:=h.set bs (.cells true (cs.set 4 (.bool true)))) ⟨⟨_,set_get ls,((wc.set4 true).of fun j j1 j2 _=>set_ne (by omega))⟩,⟨bad,by rw[set_ne (by omega)]; exact wr⟩⟩ (fun j hj=>get_lt hj),?_,by simp,by simp; omega,sget_app (fun j=>by have:=t3 j; omega) (by omega),by omega,fun j j1 j2 j3=>by rw[get_lt (by simpa using j1),set_ne (by omega)],by simp,by simp[g0],by simp[g1],by simp only[push_cast,simprocAttr]; simp⟩;simp[strs]
 clear g0 g1 g7 g8 g9 g;rintro g W ⟨b,xs,S,e1,e2,e3,e4,e5,e6,e7,g0,g1,g9⟩;refine post_mid hE.mono (DT h br bs) ?_ ?_
 ·cases h2:((xs.length:Int)==2) with
  | false =>
   simp only[push_cast,g0,g1,g9,h2,simprocAttr];exact⟨b,xs,S,e1,e2,e3,e4,e5,e6,e7,by simp[g0],by simp[g1],by simp[g9]⟩
  | true =>
   have hx:xs.length=2:=by have hz:(xs.length:Int)=2:=beq_iff_eq.1 h2; omega
   have lb:=lt_of_get e1;have k2:∀l,(W++l)[b]?=some (.cells true (strs xs)):=fun l=>get_old e1;have k6:((1+xs.length)*16<=140737488355328)=True:=by simp; omega
   have k7:(xs.length=0)=False:=eq_false (by omega);have k8:(strs xs).all single=true:=by simp[strs,single]
   have k9:(strs xs).take xs.length=strs xs:=by rw[<- strs_len xs]; exact List.take_length
   simp only[push_cast,g0,g1,g9,h2,k2,k6,k7,k8,k9,srcOf,strs_len,Nat.mul_one,simprocAttr];refine⟨W.length+1,⟨#[42]⟩::xs,S.keep fun j hj=>get_lt hj,?_,by simp,by simp; omega,sget_cons e4 (by show 1<900000; omega),by omega,fun j j1 j2 j3=>by rw[get_lt (by omega)]; exact e6 j j1 j2 j3,by simp; omega,by simp[g0],by simp[g1],by simp only[push_cast,simprocAttr]; simp; omega⟩;rw[get_appC (n:=W.length) (k:=1) rfl];rfl
 clear S e1 e2 e3 e4 e5 e6 e7 g0 g1 g9 g xs b;rintro g W ⟨b,xs,S,e1,e2,e3,e4,e5,e6,e7,g0,g1,g9⟩;obtain⟨l,e55⟩:=c55' hE (lim:=lim) (h:=W) bs (by omega);have hbW:=lt_of_get e1;have k1:(lim<=W.length)=True:=by simp; omega
 refine post_mid hE.mono (fun g X=>W++(l++[.cells true (allF bs)])=X/\g.rd 0=.pointer (some ⟨br,0,none⟩)/\g.rd 9=.slice (some ⟨b,0,none⟩) xs.length 1/\g.rd 10=.pointer (some ⟨W.length+l.length,0,none⟩)) ?_ ?_
 ·unfold allF at e55;have k3:∀x y:Blk,(W++l++[x]).set (W.length+l.length) y=W++l++[y]:=fun x y=>by rw[set_appC0 (by simp)]; rfl
  have k4:∀x:Blk,(W++l++[x])[W.length+l.length]?=some x:=fun x=>get_appC0 (by simp);have k5:∀q:Prop,(lim<=W.length+l.length\/q)=True:=fun q=>by simp; omega
  simp only[push_cast,g0,g1,g9,e55,List.length_append,k3,k4,k5,simprocAttr];simp[allF]
 clear g0 g1 g9 g;rintro g X ⟨rfl,g0,g9,g10⟩;obtain⟨v,h',e56,r1,r2,r3⟩:=(c56 hE hI hC hD hP (lim:=lim) (h:=W++(l++[.cells true (allF bs)])) (bf:=W.length+l.length) (bt:=b) (f3_date bs) (by omega) e4 (S.grow _) (by rw[get_app,get_app0]; rfl) (get_old e1) n1 (by omega) (by omega) (by omega) (by omega) hlim hlim2).out;have k4:(W++(l++[Blk.cells true (allF bs)]))[W.length+l.length]?=some (.cells true (allF bs)):=by rw[get_app,get_app0]; rfl
 have k5:(allF bs).length=30:=rfl;simp only[push_cast,g0,g9,g10,k4,k5,bound,Option.map_none,e56,simprocAttr];refine⟨by first | rfl | trivial,r1,fun j j1 j2 j3=>?_,by simp at r3; omega⟩;rw[r2 j (by simp; omega) j2 j3,get_lt (by omega)];exact e6 j j1 j2 j3
end
section
open Tb
def SD.at (s:SD):Nat->PD
 | 0=>s.yr
 | 1=>s.mo
 | 2=>s.dy
 | 3=>s.hr
 | 4=>s.mi
 | _=>s.se
def SD.put (s:SD)(i:Nat)(p:PD):SD:=match i with
 | 0=>{ s with yr:=p }
 | 1=>{ s with mo:=p }
 | 2=>{ s with dy:=p }
 | 3=>{ s with hr:=p }
 | 4=>{ s with mi:=p }
 | _=>{ s with se:=p }
def Kf:Nat->Nat
 | 0=>1
 | 1=>2
 | 2=>3
 | 3=>5
 | 4=>6
 | _=>7
theorem six {i:Nat}(h:i<6):i=0\/i=1\/i=2\/i=3\/i=4\/i=5:=by omega
theorem SD.cv_at (s:SD){i:Nat}(h:i<6):s.cv[Kf i]?=some (.slice (s.at i).a (s.at i).n (s.at i).e):=by rcases six h with rfl | rfl | rfl | rfl | rfl | rfl<;>rfl
theorem SD.cv_put (s:SD){i:Nat}(h:i<6)(p:PD):(s.put i p).cv=s.cv.set (Kf i) (.slice p.a p.n p.e):=by rcases six h with rfl | rfl | rfl | rfl | rfl | rfl<;>rfl
theorem SD.at_put (s:SD){i j:Nat}(h:i<6)(hj:j<6)(p:PD):(s.put i p).at j=if i=j then p else s.at j:=by
 rcases six h with rfl | rfl | rfl | rfl | rfl | rfl<;>rcases six hj with rfl | rfl | rfl | rfl | rfl | rfl<;>rfl
theorem SD.cv_len (s:SD):s.cv.length=9:=rfl
theorem Kf_lt (i:Nat):Kf i<9:=by unfold Kf; split<;>omega
theorem SlW.block {k:Nat}{h:Hp}{A:Addr}{n e:Nat}{ev:Nat->List Value}(H:SlW k h (some A) n e ev):A.block<h.length:=by
 rcases H with⟨h,_⟩ | ⟨b,o,own,cs,e1,_,e3,_⟩
 ·cases h
 ·cases e1; exact lt_of_get e3
def SD.Rows (s:SD)(h:Hp)(b:Nat):Prop:=∀i,i<6->(s.at i).In h/\(s.at i).Bd/\∀A,(s.at i).a=some A->A.block≠b/\A.block≠b+1
theorem PD.In.but {p:PD}{h X:Hp}{b:Nat}(H:p.In h)(hb:∀A,p.a=some A->A.block≠b/\A.block≠b+1)(ho:∀j k,j≠b->j≠b+1->h[j]?=some k->X[j]?=some k):p.In X:=by
 refine⟨?_,H.2⟩;rcases H.1 with H | ⟨b',o,own,cs,e1,e2,e3,e4⟩
 ·exact .inl H
 ·exact .inr ⟨b',o,own,cs,e1,e2,ho b' _ (hb _ e1).1 (hb _ e1).2 e3,e4⟩
theorem SD.Rows.of {s:SD}{h X:Hp}{b:Nat}(H:s.Rows h b)(ho:∀j k,j≠b->j≠b+1->h[j]?=some k->X[j]?=some k):s.Rows X b:=fun i hi =>
 ⟨(H i hi).1.but (H i hi).2.2 ho,(H i hi).2⟩
theorem SD.Rows.put {s:SD}{h:Hp}{b:Nat}(H:s.Rows h b){i:Nat}(hi:i<6){p:PD}(h1:p.In h)(h2:p.Bd)(h3:∀A,p.a=some A->A.block≠b/\A.block≠b+1):(s.put i p).Rows h b:=fun j hj=>by
 rw[SD.at_put s hi hj];split
 ·exact⟨h1,h2,h3⟩
 ·exact H j hj
theorem SD.Rows.inn {s:SD}{h:Hp}{b:Nat}(H:s.Rows h b):s.In h:=⟨(H 0 (by omega)).1,(H 1 (by omega)).1,(H 2 (by omega)).1,(H 3 (by omega)).1,(H 4 (by omega)).1,(H 5 (by omega)).1⟩
theorem SD.Rows.bd {s:SD}{h:Hp}{b:Nat}(H:s.Rows h b):s.Bd:=⟨(H 0 (by omega)).2.1,(H 1 (by omega)).2.1,(H 2 (by omega)).2.1,(H 3 (by omega)).2.1,(H 4 (by omega)).2.1,(H 5 (by omega)).2.1⟩
theorem rows_of {s:SD}{h:Hp}{b:Nat}(H:s.In h)(B:s.Bd)(hb:h.length<=b):s.Rows h b:=fun i hi=>by
 have h1:(s.at i).In h:=match i,hi with
  | 0,_=>H.yr
  | 1,_=>H.mo
  | 2,_=>H.dy
  | 3,_=>H.hr
  | 4,_=>H.mi
  | 5,_=>H.se
 have h2:(s.at i).Bd:=match i,hi with
  | 0,_=>B.yr
  | 1,_=>B.mo
  | 2,_=>B.dy
  | 3,_=>B.hr
  | 4,_=>B.mi
  | 5,_=>B.se
 refine⟨h1,h2,fun A hA=>?_⟩;have:=h1.1;rw[hA] at this;have:=this.block;omega
def SD.New (s:SD)(lo:Nat):Prop:=∀i,i<6->∀A,(s.at i).a=some A->lo<=A.block
theorem SD.New.le {s:SD}{lo lo':Nat}(H:s.New lo)(h:lo'<=lo):s.New lo':=fun i hi A hA=>Nat.le_trans h (H i hi A hA)
theorem SD.New.In {s:SD}{lo:Nat}(H:s.New lo){h X:Hp}(hI:s.In h)(ho:∀j k,lo<=j->h[j]?=some k->X[j]?=some k):s.In X:=by
 have key:∀i,i<6->(s.at i).In h->(s.at i).In X:=fun i hi hp=>by
  refine⟨?_,hp.2⟩;rcases hp.1 with hp | ⟨b',o,own,cs,e1,e2,e3,e4⟩
  ·exact .inl hp
  ·exact .inr ⟨b',o,own,cs,e1,e2,ho b' _ (H i hi _ e1) e3,e4⟩
 exact⟨key 0 (by omega) hI.yr,key 1 (by omega) hI.mo,key 2 (by omega) hI.dy,key 3 (by omega) hI.hr,key 4 (by omega) hI.mi,key 5 (by omega) hI.se⟩
def StpQ (_ _ s:Int):Prop:=s<=10000000000000
theorem take3_get {cs:List Value}{o:Nat}{a b c:Value}(h:(cs.drop o).take 3=[a,b,c]):cs[o]?=some a/\cs[o+1]?=some b/\cs[o+2]?=some c:=by
 have g:∀i,i<3->cs[o+i]?=([a,b,c]:List Value)[i]?:=fun i hi=>by rw[<- h,List.getElem?_take,if_pos hi,List.getElem?_drop]
 exact⟨g 0 (by omega),g 1 (by omega),g 2 (by omega)⟩
theorem PD.row {p:PD}(B:p.Bd){cs:List Value}(hl:cs.length=p.n*3)(hc:∀j,j<p.n->(cs.drop (j*3)).take 3=[.int .i64 (p.f j),.int .i64 (p.t j),.int .i64 (p.s j)]):RowT StpQ cs p.n :=
 ⟨by omega,fun j hj=>⟨_,_,_,(take3_get (hc j hj)).1,(take3_get (hc j hj)).2.1,(take3_get (hc j hj)).2.2,B j hj⟩⟩
def rowPD (b:Nat)(cs:List Value)(n:Nat):PD:=⟨some ⟨b,0,none⟩,n,3,fun j=>pv cs j 0,fun j=>pv cs j 1,fun j=>pv cs j 2⟩
theorem rowPD_in {X:Hp}{b n:Nat}{cs:List Value}(hb:X[b]?=some (.cells true cs))(H:RowT StpQ cs n)(hn:n<1000000):(rowPD b cs n).In X :=
 ⟨.inr ⟨b,0,true,cs,rfl,rfl,hb,by have:=H.len; show 0+n*3<=_; omega,fun j hj=>by rw[Nat.zero_add]; exact H.getN hj⟩,hn⟩
theorem rowPD_bd {b n:Nat}{cs:List Value}(H:RowT StpQ cs n):(rowPD b cs n).Bd:=fun j hj=>(H.both (i:=(j:Int)) (by omega) (by show(j:Int)<n; have:j<n:=hj; omega)).2
def nilPD:PD:=⟨none,0,0,fun _=>0,fun _=>0,fun _=>0⟩
theorem nilPD_in (X:Hp):nilPD.In X:=⟨.inl ⟨rfl,rfl,rfl⟩,by decide⟩
theorem nilPD_bd:nilPD.Bd:=fun j hj=>absurd hj (Nat.not_lt_zero j)
theorem allF_at (b:Nat){i:Nat}(h:i<6):∃l m u d:Int,(allF b).toArray.extract (i*5) (i*5+5)=#[.int .i64 l,.int .i64 m,.int .i64 u,.int .i64 d,.pointer (some ⟨b,Kf i,none⟩)]:=by
 rcases six h with rfl | rfl | rfl | rfl | rfl | rfl<;>exact⟨_,_,_,_,rfl⟩
variable {E:Env}(hE:EnvT E){lim:Nat}{h:Hp}
include hE
theorem loop57 {W:Hp}{c n:Nat}{cs:List Value}(hc:W[c]?=some (.cells true cs))(H:RowT StpQ cs n)(hn:n<1000000){v1 v2 v3 v5 v17 v18:Value}{f:Fr}(f1:f.rd 1=v1)(f2:f.rd 2=v2)(f3:f.rd 3=v3)(f5:f.rd 5=v5)(f6:f.rd 6=.slice (some ⟨c,0,none⟩) n 3)(f17:f.rd 17=v17)(f18:f.rd 18=v18)
  (f26:f.rd 26=.slice (some ⟨c,0,none⟩) n 3)(f27:f.rd 27=.int .i64 n)(f28:f.rd 28=.int .i64 0){P:AX->Fr->Hp->Prop}
  (hP:∀f' X' cs',(∀j,j<W.length->j≠c->X'[j]?=W[j]?)->W.length<=X'.length->X'[c]?=some (.cells true cs')->RowT StpQ cs' n->f'.rd 1=v1->f'.rd 2=v2->f'.rd 3=v3->f'.rd 5=v5->f'.rd 6=.slice (some ⟨c,0,none⟩) n 3->f'.rd 17=v17->f'.rd 18=v18->P (.exit 2) f' X') :
  Post (evK E lim (.loop lp57_0) f W) P:=by
 have lc:=lt_of_get hc;refine loop_post hE.mono (fun q g X=>∃(i:Nat) (cs':List Value),i<=n/\(∀j,j<W.length->j≠c->X[j]?=W[j]?)/\W.length<=X.length/\X[c]?=some (.cells true cs')/\RowT StpQ cs' n/\g.rd 1=v1/\g.rd 2=v2/\g.rd 3=v3/\g.rd 5=v5/\g.rd 6=.slice (some ⟨c,0,none⟩) n 3/\g.rd 17=v17/\g.rd 18=v18/\g.rd 26=.slice (some ⟨c,0,none⟩) n 3/\g.rd 27=.int .i64 n/\g.rd 28=.int .i64 i/\n-i=q) ?_ n _ _ ⟨0,cs,Nat.zero_le _,fun _ _ _=>rfl,Nat.le_refl _,hc,H,f1,f2,f3,f5,f6,f17,f18,f26,f27,f28,rfl⟩;clear hc H f1 f2 f3 f5 f6 f17 f18 f26 f27 f28;rintro q g X ⟨i,cs',hi,xo,xl,xc,H,g1,g2,g3,g5,g6,g17,g18,g26,g27,g28,hq⟩
 by_cases hlt:(i:Int)<n
 ·have hi':i<n:=by omega
  have a2:(0<=(i:Int))=True:=by simp
  have a3:=H.getN hi';have a4:=H.fitsN hi';have a8:=wn1 (i:=i);have lX:=lt_of_get xc;have k1:∀l,(X++l)[c]?=some (.cells true cs'):=fun l=>get_old xc;have k2:∀l x,(X++l).set c x=X.set c x++l:=fun l x=>set_old lX;obtain⟨r,hr⟩:∃r,decide (pv cs' i 2>IntKind.i64.wrap (pv cs' i 1-pv cs' i 0))=r:=⟨_,rfl⟩;cases r with
  | false =>
   simp only[push_cast,lp57_0,g1,g2,g3,g5,g6,g17,g18,g26,g27,g28,hlt,a2,a3,a4,a8,xc,hr,simprocAttr];exact⟨_,(by omega:n-(i+1)<q),i+1,cs',by omega,fun j j1 j2=>by rw[get_lt (by omega)]; exact xo j j1 j2,by first | omega | (simp; omega),get_old xc,H,rfl,rfl⟩
  | true =>
   simp only[push_cast,lp57_0,g1,g2,g3,g5,g6,g17,g18,g26,g27,g28,hlt,a2,a3,a4,a8,xc,hr,k1,k2,simprocAttr];exact⟨_,(by omega:n-(i+1)<q),i+1,_,by omega,fun j j1 j2=>by rw[get_lt (by simp; omega),set_ne (by omega)]; exact xo j j1 j2,by first | omega | (simp; omega),get_old (set_get lX),H.set (show StpQ _ _ 0 by unfold StpQ; omega) hi',rfl,rfl⟩
 ·simp only[push_cast,lp57_0,g27,g28,hlt,simprocAttr];have:i=n:=by omega
  refine hP _ X cs' xo xl xc H ?_ ?_ ?_ ?_ ?_ ?_ ?_<;>first | assumption | simp only[push_cast,g1,g2,g3,g5,g6,g17,g18,simprocAttr]
theorem c57 (hLn:PartOk E/\PartNil E){s:SD}(H:s.In h)(B:s.Bd)(hlim:lim<=h.length):PostV (evI E lim (.func 57) [.agg s.cv.toArray] h) fun v h'=>∃(s':SD) (e:Int),v=.tuple #[.agg s'.cv.toArray,.int .i64 e]/\Agr h h'/\s'.In h'/\s'.Bd/\s'.New h.length:=by
 obtain⟨r,e39,-⟩:=c39 hE (lim:=lim) (h:=h++[.cells true s.cv,.cells true (⟨0,nilPD,nilPD,nilPD,false,nilPD,nilPD,nilPD,false⟩:SD).cv]) (H.agr (Agr.app _ _));unfold PD.val at e39;have hl1:(lim<=h.length+1)=True:=eq_true (by omega);cases r with
 | false =>
  simp only[SD.cv,nilPD] at e39;rw[hE.fn T57]; simp only[push_cast,ac57,SD.cv,e39,hl1,simprocAttr];exact⟨⟨0,nilPD,nilPD,nilPD,false,nilPD,nilPD,nilPD,false⟩,2,rfl,Agr.app _ _,⟨nilPD_in _,nilPD_in _,nilPD_in _,nilPD_in _,nilPD_in _,nilPD_in _⟩,⟨nilPD_bd,nilPD_bd,nilPD_bd,nilPD_bd,nilPD_bd,nilPD_bd⟩,fun i hi A hA=>by rcases six hi with rfl | rfl | rfl | rfl | rfl | rfl<;>cases hA⟩
 | true =>
  refine post_fn hE T57 (Nat.le_of_ble_eq_true rfl) ?_;show Post (evK E lim ac57 _ _) _;unfold ac57;obtain⟨d,hd⟩:∃d,IntKind.u8.wrap (s.days.tmod 127)=d:=⟨_,rfl⟩;refine post_mid hE.mono (fun g W=>h++[.cells true s.cv,.cells true (⟨0,nilPD,nilPD,nilPD,false,nilPD,nilPD,nilPD,false⟩:SD).cv]=W/\g.rd 1=.pointer (some ⟨h.length,0,none⟩)/\g.rd 2=.pointer (some ⟨h.length+1,0,none⟩)/\g.rd 3=.int .i64 0) (by simp only[push_cast,SD.cv,nilPD,simprocAttr]) ?_;rintro g W ⟨rfl,g1,g2,g3⟩;refine post_mid hE.mono (fun g W=>h++[.cells true s.cv,.cells true (⟨0,nilPD,nilPD,nilPD,false,nilPD,nilPD,nilPD,false⟩:SD).cv]=W/\g.rd 1=.pointer (some ⟨h.length,0,none⟩)/\g.rd 2=.pointer (some ⟨h.length+1,0,none⟩)/\g.rd 3=.int .i64 0) (by simp only[SD.cv,nilPD] at e39; simp only[push_cast,SD.cv,nilPD,g1,g2,g3,e39,simprocAttr]) ?_;clear g1 g2 g3 g;rintro g W ⟨rfl,g1,g2,g3⟩;refine post_mid hE.mono (fun g W=>(∃d,h++[.cells true ({ s with days:=d }:SD).cv,.cells true (⟨0,nilPD,nilPD,nilPD,false,nilPD,nilPD,nilPD,false⟩:SD).cv]=W)/\g.rd 1=.pointer (some ⟨h.length,0,none⟩)/\g.rd 2=.pointer (some ⟨h.length+1,0,none⟩)/\g.rd 3=.int .i64 0) (by simp only[push_cast,SD.cv,nilPD,g1,g2,g3,simprocAttr]; exact⟨_,rfl⟩) ?_;clear g1 g2 g3 g hd d;rintro g W ⟨⟨d,rfl⟩,g1,g2,g3⟩;obtain⟨s0,hs0⟩:∃s0:SD,s0={ s with days:=d }:=⟨_,rfl⟩;have R0:s0.Rows h h.length:=rows_of (by rw[hs0]; exact⟨H.yr,H.mo,H.dy,H.hr,H.mi,H.se⟩) (by rw[hs0]; exact⟨B.yr,B.mo,B.dy,B.hr,B.mi,B.se⟩) (Nat.le_refl _);rw[<- hs0];clear hs0 e39 B H;obtain⟨l,e55⟩:=c55' hE (lim:=lim) (h:=h++[.cells true s0.cv,.cells true (⟨0,nilPD,nilPD,nilPD,false,nilPD,nilPD,nilPD,false⟩:SD).cv]) h.length (by simp; omega);have x2:∀q:Prop,(lim<=h.length\/q)=True:=fun q=>by simp[hlim]
  refine post_mid hE.mono (fun g W=>∃s':SD,s'.New h.length/\s'.Rows W h.length/\W[h.length]?=some (.cells true s'.cv)/\W[h.length+1]?=some (.cells true (⟨0,nilPD,nilPD,nilPD,false,nilPD,nilPD,nilPD,false⟩:SD).cv)/\(∀j,j<h.length->W[j]?=h[j]?)/\g.rd 1=.pointer (some ⟨h.length,0,none⟩)/\g.rd 2=.pointer (some ⟨h.length+1,0,none⟩)/\g.rd 3=.int .i64 0) ?_ ?_
  ·unfold allF at e55;simp only[push_cast,g1,g2,g3,e55,simprocAttr];refine loop_post hE.mono (fun q g W=>∃(i:Nat) (s':SD),i<=6/\(∀j,j<i->j<6->∀A,(s'.at j).a=some A->h.length<=A.block)/\s'.Rows W h.length/\W[h.length]?=some (.cells true s'.cv)/\W[h.length+1]?=some (.cells true (⟨0,nilPD,nilPD,nilPD,false,nilPD,nilPD,nilPD,false⟩:SD).cv)/\(∀j,j<h.length->W[j]?=h[j]?)/\g.rd 1=.pointer (some ⟨h.length,0,none⟩)/\g.rd 2=.pointer (some ⟨h.length+1,0,none⟩)/\g.rd 3=.int .i64 0/\g.rd 17=.agg (allF h.length).toArray/\g.rd 18=.int .i64 i/\6-i=q) ?_ 6 _ _ ⟨0,s0,by omega,(fun j hj=>by omega),R0.of fun j k _ _ e=>get_old e,by rw[get_app0]; rfl,by rw[get_app]; rfl,fun j hj=>get_lt hj,by simp[g1],by simp[g2],by simp[g3],by first | rfl | (simp only[push_cast,simprocAttr]; rfl) | simp only[push_cast,simprocAttr],by first | rfl | simp only[push_cast,simprocAttr],rfl⟩;clear g1 g2 g3 g e55 R0 s0 l;rintro q g W ⟨i,s0,hi,N0,R0,wb,wt,wo,g1,g2,g3,g17,g18,hq⟩;have lb:=lt_of_get wb;have lt:=lt_of_get wt
   by_cases hlt:(i:Int)<6
   ·have hi':i<6:=by omega
    obtain⟨l,m,u,d,hx⟩:=allF_at h.length hi';have a2:(0<=(i:Int))=True:=by simp
    have a8:=wn1 (i:=i);have x6:∀q:Prop,(lim<=W.length\/q)=True:=fun q=>by simp; omega
    have hcv:=SD.cv_at s0 hi';obtain⟨Ri,Bi,Oi⟩:=R0 i hi';have hkl:=Kf_lt i;have hx9:(Kf i+1<=s0.cv.length)=True:=eq_true (by rw[SD.cv_len]; omega);obtain⟨v,h',e106,a',e',l',rfl,rfl,hO⟩:=(c106 hE (lim:=lim) (h:=W++[.cells true [.int .i64 l,.int .i64 m,.int .i64 u,.int .i64 d,.pointer (some ⟨h.length,Kf i,none⟩)]]) Ri.1.grow (by have:=Ri.2; omega) (fun j _=>rfl)).out;have k1:∀l,(W++l)[h.length]?=some (.cells true s0.cv):=fun l=>get_old wb;rcases hO with⟨rfl,hn0,rfl⟩ | ⟨c,cs,rfl,rfl,hcl,hcb,hcn,hch⟩
    ·generalize (s0.at i).n=n at hcv e106 hn0;subst hn0;have k2:∀l x,(W++l).set h.length x=W.set h.length x++l:=fun l x=>set_old lb;simp only[push_cast,lp57_1,g1,g2,g3,g17,g18,hlt,a2,hx,x6,k1,hcv,e106,List.append_assoc,evK_loop' hE.mono,lp57_0,Int.lt_irrefl,hLn.2 _ _,c109_nil hE,sureL,k2,x2,hx9,a8,simprocAttr]
     refine⟨_,(by omega:6-(i+1)<q),i+1,s0.put i nilPD,by omega,(fun j j1 j6 A hA=>by
      rw[SD.at_put s0 hi' j6] at hA;split at hA
      ·cases hA
      ·exact N0 j (by omega) j6 A hA),(R0.of fun j k j1 j9 e=>?_).put hi' (nilPD_in _) nilPD_bd (fun A h=>by cases h),?_,?_,fun j hj=>?_,by rfl,rfl⟩
     ·exact get_old (by rw[set_ne (by omega)]; exact e)
     ·rw[SD.cv_put s0 hi']; exact get_old (set_get lb)
     ·rw[get_lt (by simpa using lt),set_ne (by omega)]; exact wt
     ·rw[get_lt (by simp; omega),set_ne (by omega)]; exact wo j hj
    ·have hcl':W.length+1<=c:=by simpa using hcl
     have hT:=PD.row Bi hcn hch;have hn:=Ri.2;generalize (s0.at i).n=n at *;simp only[push_cast,lp57_1,g1,g2,g3,g17,g18,hlt,a2,hx,x6,k1,hcv,e106,List.append_assoc,simprocAttr];rw[List.append_assoc] at hcb;refine loop57 hE hcb hT hn (v1:=.pointer (some ⟨h.length,0,none⟩)) (v2:=.pointer (some ⟨h.length+1,0,none⟩)) (v3:=.int .i64 0) (v5:=.pointer (some ⟨W.length,0,none⟩)) (v17:=.agg (allF h.length).toArray) (v18:=.int .i64 i) (by simp[g1]) (by simp[g2]) (by simp[g3]) (by simp) (by simp) (by simp[g17]) (by simp[g18]) (by simp) (by simp) (by simp) ?_;clear g1 g2 g3 g17 g18;intro f X cs2 xo xl xc H2 g1 g2 g3 g5 g6 g17 g18;have xl':W.length+1<=X.length:=by simp at xl; omega
     have xb:X[h.length]?=some (.cells true s0.cv):=by rw[xo _ (by simp; omega) (by omega)]; exact get_old wb
     have x5:X[W.length]?=some (.cells true [.int .i64 l,.int .i64 m,.int .i64 u,.int .i64 d,.pointer (some ⟨h.length,Kf i,none⟩)]):=by rw[xo _ (by simp) (by omega)]; exact get_app0
     have lc:=lt_of_get xc;have lbX:=lt_of_get xb;obtain⟨v1,h1,e107,rfl,cs3,rfl,H3⟩:=(hLn.1 lim _ _ _ _ _ xc H2 hn).out;obtain⟨v2,h2,e109,n',cs4,rfl,n1,rfl,H4⟩:=(c109 hE (lim:=lim) (h:=X.set c (.cells true cs3)) (b:=c) (set_get lc) H3 hn).out;rw[List.set_set] at e109;have m1:∀x,(X.set c x)[h.length]?=some (.cells true s0.cv):=fun x=>by rw[set_ne (by omega)]; exact xb
     have m2:∀x,(X.set c x)[W.length]?=some (.cells true [.int .i64 l,.int .i64 m,.int .i64 u,.int .i64 d,.pointer (some ⟨h.length,Kf i,none⟩)]):=fun x=>by rw[set_ne (by omega)]; exact x5
     simp only[push_cast,g1,g2,g3,g5,g6,g17,g18,e107,m1,m2,e109,sureL,x2,hx9,a8,simprocAttr]
     refine⟨_,(by omega:6-(i+1)<q),i+1,s0.put i (rowPD c cs4 n'),by omega,(fun j j1 j6 A hA=>by
      rw[SD.at_put s0 hi' j6] at hA;split at hA
      ·cases hA; show h.length<=c; omega
      ·exact N0 j (by omega) j6 A hA),(R0.of fun j k j1 j9 e=>?_).put hi' (rowPD_in (X:=(X.set c (.cells true cs4)).set h.length (.cells true (s0.cv.set (Kf i) (.slice (some ⟨c,0,none⟩) n' 3)))) (by rw[set_ne (by omega),set_get lc]) H4 (by omega)) (rowPD_bd H4) (fun A h=>by cases h; show c≠_/\c≠_; omega),?_,?_,fun j hj=>?_,by rfl,rfl⟩
     ·have:=lt_of_get e;rw[set_ne (by omega),set_ne (by omega),xo j (by simp; omega) (by omega)];exact get_old e
     ·rw[SD.cv_put s0 hi']; exact set_get (by simpa using lbX)
     ·rw[set_ne (by omega),set_ne (by omega),xo _ (by simp; omega) (by omega)]; exact get_old wt
     ·rw[set_ne (by omega),set_ne (by omega),xo j (by simp; omega) (by omega),get_lt (by omega)]; exact wo j hj
   ·simp only[push_cast,lp57_1,g18,hlt,simprocAttr];exact⟨s0,fun j j6=>N0 j (by omega) j6,R0,wb,wt,wo,by simp[g1],by simp[g2],by simp[g3]⟩
  ·clear g1 g2 g3 g e55 R0 s0 l;rintro g W ⟨s0,N0,R0,wb,wt,wo,g1,g2,g3⟩;have lt:=lt_of_get wt;simp only[SD.cv,nilPD] at wb wt;simp only[push_cast,g1,g2,g3,wb,wt,hl1,set_get lt,simprocAttr];refine⟨s0,0,rfl,fun j k e=>?_,(R0.of fun j k j1 j2 e=>?_).inn,R0.bd,N0⟩
   ·have:=lt_of_get e;rw[set_ne (by omega),wo j (by omega)]; exact e
   ·rw[set_ne (by omega)]; exact e
end
section
open Tb
def zSD:SD:=⟨0,nilPD,nilPD,nilPD,false,nilPD,nilPD,nilPD,false⟩
theorem zSD_in (X:Hp):zSD.In X:=⟨nilPD_in _,nilPD_in _,nilPD_in _,nilPD_in _,nilPD_in _,nilPD_in _⟩
theorem zSD_new (lo:Nat):zSD.New lo:=fun i hi A hA=>by rcases six hi with rfl | rfl | rfl | rfl | rfl | rfl<;>cases hA
theorem zSD_bd:zSD.Bd:=⟨nilPD_bd,nilPD_bd,nilPD_bd,nilPD_bd,nilPD_bd,nilPD_bd⟩
def PZ (h:Hp)(g:Fr)(W:Hp):Prop:=∃(b o n:Nat) (xs:List ByteArray),SB W (h.length+1) (h.length+5)/\W[h.length]?=some (.cells true zSD.cv)/\(∀j,j<h.length->W[j]?=h[j]?)/\W[b]?=some (.cells true (strs xs))/\h.length+5<b/\o+n<=xs.length/\xs.length<600000/\(∀j,(xs.getD j ⟨#[]⟩).size<600000) /\
 g.rd 2=.pointer (some ⟨h.length,0,none⟩)/\g.rd 4=.pointer (some ⟨h.length+1,0,none⟩)/\g.rd 5=.pointer (some ⟨h.length+5,0,none⟩)/\g.rd 6=.slice (some ⟨b,o,none⟩) n 1
def psPD (a:Option Addr)(e:Nat)(ps:List (Int×Int×Int)):PD:=⟨a,ps.length,e,fun j=>(ps.getD j (0,0,0)).1,fun j=>(ps.getD j (0,0,0)).2.1,fun j=>(ps.getD j (0,0,0)).2.2⟩
theorem getD_mem {α:Type}{l:List α}{j:Nat}{d:α}(h:j<l.length):l.getD j d∈l:=by
 rw[List.getD_eq_getElem?_getD,List.getElem?_eq_getElem h];exact List.getElem_mem h
theorem PR.pd {X:Hp}{br bs:Nat}{v:Value}{ps:List (Int×Int×Int)}(H:PR X br bs v ps)(hs:Stp ps)(hl:ps.length<1000000):∃p:PD,v=.slice p.a p.n p.e/\p.In X/\p.Bd:=by
 have hbd:∀a e,(psPD a e ps).Bd:=fun a e j hj=>hs _ (getD_mem hj);rcases H with⟨rfl,rfl⟩ | ⟨c,rfl,c1,c2,c3⟩
 ·exact⟨nilPD,rfl,nilPD_in _,nilPD_bd⟩
 ·exact⟨psPD (some ⟨c,0,none⟩) 3 ps,rfl,⟨.inr ⟨c,0,true,prt ps,rfl,rfl,c3,by rw[prt_len]; show 0+ps.length*3<=_; omega,fun j hj=>by rw[Nat.zero_add]; exact prt_get ps j hj⟩,hl⟩,hbd _ _⟩
theorem SBc.sd {X:Hp}{br bs:Nat}{cs:List Value}(H:SBc X br bs cs):∃s:SD,cs=s.cv/\s.In X/\s.Bd:=by
 obtain⟨d,e0⟩:=H.c0;obtain⟨b4,e4⟩:=H.c4;obtain⟨b8,e8⟩:=H.c8;obtain⟨v1,p1,f1,q1,s1,l1⟩:=H.row 1 (by unfold FieldK; omega);obtain⟨v2,p2,f2,q2,s2,l2⟩:=H.row 2 (by unfold FieldK; omega);obtain⟨v3,p3,f3,q3,s3,l3⟩:=H.row 3 (by unfold FieldK; omega);obtain⟨v5,p5,f5,q5,s5,l5⟩:=H.row 5 (by unfold FieldK; omega);obtain⟨v6,p6,f6,q6,s6,l6⟩:=H.row 6 (by unfold FieldK; omega);obtain⟨v7,p7,f7,q7,s7,l7⟩:=H.row 7 (by unfold FieldK; omega);obtain⟨r1,rfl,i1,j1⟩:=q1.pd s1 l1;obtain⟨r2,rfl,i2,j2⟩:=q2.pd s2 l2;obtain⟨r3,rfl,i3,j3⟩:=q3.pd s3 l3;obtain⟨r5,rfl,i5,j5⟩:=q5.pd s5 l5;obtain⟨r6,rfl,i6,j6⟩:=q6.pd s6 l6;obtain⟨r7,rfl,i7,j7⟩:=q7.pd s7 l7;have hl:=H.len;refine⟨⟨d,r1,r2,r3,b4,r5,r6,r7,b8⟩,?_,⟨i1,i2,i3,i5,i6,i7⟩,⟨j1,j2,j3,j5,j6,j7⟩⟩
 match cs,hl with
 | [c0,c1,c2,c3,c4,c5,c6,c7,c8],_ =>
  simp only[List.getElem?_cons_zero,List.getElem?_cons_succ,Option.some.injEq] at e0 e4 e8 f1 f2 f3 f5 f6 f7;subst e0 e4 e8 f1 f2 f3 f5 f6 f7;rfl
theorem SBc.set0 {X:Hp}{br bs:Nat}{cs:List Value}(H:SBc X br bs cs)(d:Int):SBc X br bs (cs.set 0 (.int .u8 d)):=by
 have hl9:=H.len;refine⟨by rw[List.length_set]; exact H.len,⟨d,List.getElem?_set_self (by omega)⟩,?_,?_,fun j hj=>?_⟩
 ·rw[List.getElem?_set_ne (by omega)]; exact H.c4
 ·rw[List.getElem?_set_ne (by omega)]; exact H.c8
 ·rw[List.getElem?_set_ne (by unfold FieldK at hj; omega)];exact H.row j hj
theorem SBc.set8 {X:Hp}{br bs:Nat}{cs:List Value}(H:SBc X br bs cs)(b:Bool):SBc X br bs (cs.set 8 (.bool b)):=by
 have hl9:=H.len;refine⟨by rw[List.length_set]; exact H.len,?_,?_,⟨b,List.getElem?_set_self (by omega)⟩,fun j hj=>?_⟩
 ·rw[List.getElem?_set_ne (by omega)]; exact H.c0
 ·rw[List.getElem?_set_ne (by omega)]; exact H.c4
 ·rw[List.getElem?_set_ne (by unfold FieldK at hj; omega)];exact H.row j hj
theorem SB.setS {X:Hp}{br bs:Nat}{cs cs':List Value}{bad:Bool}(ws:X[bs]?=some (.cells true cs))(wr:X[br]?=some (bB bad))(wc:SBc X br bs cs')(n1:br≠bs):SB (X.set bs (.cells true cs')) br bs :=
 ⟨⟨cs',set_get (lt_of_get ws),wc.of fun j _ j2 _=>set_ne (by omega)⟩,⟨bad,by rw[set_ne (by omega)]; exact wr⟩⟩
theorem SB.setB {X:Hp}{br bs:Nat}(H:SB X br bs)(b:Bool)(n1:br≠bs):SB (X.set br (bB b)) br bs:=by
 obtain⟨cs,ws,wc⟩:=H.cs;obtain⟨bad,wr⟩:=H.bad;exact⟨⟨cs,by rw[set_ne (by omega)]; exact ws,wc.of fun j _ _ j3=>set_ne (by omega)⟩,⟨b,set_get (lt_of_get wr)⟩⟩
variable {E:Env}(hE:EnvT E){lim:Nat}{h:Hp}
include hE
theorem post_ct {o:Operand}{a c:AC}{f:Fr}{P:AX->Fr->Hp->Prop}(hc:f.ev o=.bool true)(h1:Post (evK E lim a f h) P):Post (evK E lim (.cond o a c) f h) P:=by
 rw[evK_cond hE.mono,hc];exact h1
theorem post_cf {o:Operand}{a c:AC}{f:Fr}{P:AX->Fr->Hp->Prop}(hc:f.ev o=.bool false)(h1:Post (evK E lim c f h) P):Post (evK E lim (.cond o a c) f h) P:=by
 rw[evK_cond hE.mono,hc];exact h1
theorem c16 (hI:IdxOk E)(hC:CntOk E)(hD:DecOk E)(hP:ParseOk E)(hL:LowOk E)(hLn:PartOk E/\PartNil E)(t:ByteArray)(hlim:lim<=h.length) :
  PostV (evI E lim (.func 16) [.string t] h) fun v h'=>∃(s:SD) (e:Int),v=.tuple #[.agg s.cv.toArray,.int .i64 e]/\Agr h h'/\s.In h'/\s.Bd/\s.New h.length:=by
 by_cases ht:(t.size:Int)>4000
 ·have l1:(lim<=h.length)=True:=by simp[hlim]
  rw[hE.fn T16]; simp only[push_cast,ac16,ht,l1,simprocAttr];exact⟨zSD,90,rfl,Agr.app _ _,zSD_in _,zSD_bd,zSD_new _⟩
 have hts:t.size<=4000:=by omega
 have xl:∀k,(lim<=h.length+k)=True:=fun k=>eq_true (by omega);have xk:∀k,∀q:Prop,(lim<=h.length+k\/q)=True:=fun k q=>by simp; omega
 refine post_fn hE T16 (Nat.le_of_ble_eq_true rfl) ?_;show Post (evK E lim ac16 _ _) _;unfold ac16;refine post_mid hE.mono (fun g W=>h++[.cells true zSD.cv]=W/\g.rd 0=.string t/\g.rd 2=.pointer (some ⟨h.length,0,none⟩)) (by simp only[push_cast,zSD,SD.cv,nilPD,simprocAttr]) ?_;rintro g W ⟨rfl,g0,g2⟩;refine post_mid hE.mono (fun g W=>h++[.cells true zSD.cv]=W/\g.rd 0=.string t/\g.rd 2=.pointer (some ⟨h.length,0,none⟩)) (by simp only[push_cast,g0,g2,ht,simprocAttr]) ?_;clear g0 g2 g;rintro g W ⟨rfl,g0,g2⟩;refine post_mid hE.mono (fun g W=>h++[.cells true zSD.cv,bB false]=W/\g.rd 0=.string t/\g.rd 2=.pointer (some ⟨h.length,0,none⟩)/\g.rd 4=.pointer (some ⟨h.length+1,0,none⟩)) (by simp only[push_cast,g0,g2,bB,simprocAttr]) ?_;clear g0 g2 g;rintro g W ⟨rfl,g0,g2,g4⟩;refine post_mid hE.mono (fun g W=>SB W (h.length+1) (h.length+5)/\W[h.length]?=some (.cells true zSD.cv)/\(∀j,j<h.length->W[j]?=h[j]?)/\W.length=h.length+6/\g.rd 0=.string t/\g.rd 2=.pointer (some ⟨h.length,0,none⟩)/\g.rd 4=.pointer (some ⟨h.length+1,0,none⟩)/\g.rd 5=.pointer (some ⟨h.length+5,0,none⟩)) ?_ ?_
 ·simp only[push_cast,g0,g2,g4,bB,len_cons,get_cons,Nat.add_assoc,xl,xk,simprocAttr]
  have hp:∀(X:Hp) (k:Nat),X[h.length+k]?=some (.cells true [.int .i64 0,.int .i64 0,.int .i64 0])->k≠1->k≠5->∃v ps,some (Value.slice (some ⟨h.length+k,0,none⟩) 1 3)=some v/\PR X (h.length+1) (h.length+5) v ps/\Stp ps/\ps.length<1000000:=fun X k e k1 k5 =>
   ⟨_,[(0,0,0)],rfl,.inr ⟨_,rfl,by omega,by omega,e⟩,(fun p hp=>by rw[List.mem_singleton.1 hp]; decide),by decide⟩
  have hnil:∀(X:Hp),∃v ps,some (Value.slice none 0 0)=some v/\PR X (h.length+1) (h.length+5) v ps/\Stp ps/\ps.length<1000000:=fun X=>⟨_,[],rfl,.inl ⟨rfl,rfl⟩,(fun p hp=>nomatch hp),by decide⟩;refine⟨⟨⟨_,by rw[get_app]; rfl,rfl,⟨_,rfl⟩,⟨_,rfl⟩,⟨_,rfl⟩,fun k hk=>?_⟩,⟨false,by rw[get_app]; rfl⟩⟩,fun j hj=>get_lt hj⟩;unfold FieldK at hk;rcases hk with rfl | rfl | rfl | rfl | rfl | rfl
  ·exact hnil _
  ·exact hnil _
  ·exact hnil _
  ·exact hp _ 2 (by rw[get_app]; rfl) (by omega) (by omega)
  ·exact hp _ 3 (by rw[get_app]; rfl) (by omega) (by omega)
  ·exact hp _ 4 (by rw[get_app]; rfl) (by omega) (by omega)
 clear g0 g2 g4 g;rintro g W ⟨S,wt,wo,wl,g0,g2,g4,g5⟩;refine post_mid hE.mono (PZ h) ?_ ?_
 ·obtain⟨v,h',e49,b,xs,A,hb,rfl,e1,e2,e3⟩:=(c49 hE (lim:=lim) (h:=W) t (by omega) (by omega)).out;have AW:∀j,j<W.length->h'[j]?=W[j]?:=fun j hj=>by rw[List.getElem?_eq_getElem hj]; exact A _ _ (List.getElem?_eq_getElem hj)
  simp only[push_cast,g0,g2,g4,g5,e49,simprocAttr];exact⟨b,0,xs.length,xs,S.keep AW,A _ _ wt,fun j hj=>(AW j (by omega)).trans (wo j hj),e1,by omega,by omega,by omega,fun j=>by have:=e3 j; omega,by simp[g2],by simp[g4],by simp[g5],by simp⟩
 clear g0 g2 g4 g5 g S wt wo wl W;rintro g W ⟨b,o,n,xs,S,wt,wo,wb,hb,hon,hxl,hxs,g2,g4,g5,g6⟩;refine post_mid hE.mono (PZ h) ?_ ?_
 ·by_cases hn:(n:Int)>0
  ·have c1:=w64 (x:=(n:Int)-1);have c2:(0<=(n:Int)-1)=True:=eq_true (by omega);have c3:((n:Int)-1<n)=True:=eq_true (by omega);have c4:((n:Int)-1).toNat=n-1:=by omega
   have c5:=strs_get (xs:=xs) (i:=o+(n-1)) (by omega);have c6:((n:Int)-1<=n)=True:=eq_true (by omega);generalize xs.getD (o+(n-1)) ⟨#[]⟩=z at c5;cases hz:z.toList==(⟨#[85,84,67]⟩:ByteArray).toList with
   | false =>
    simp only[push_cast,g2,g4,g5,g6,hn,c1,c2,c3,c4,c5,wb,hz,Nat.mul_one,simprocAttr];exact⟨b,o,n,xs,S,wt,wo,wb,hb,hon,hxl,hxs,by simp[g2],by simp[g4],by simp[g5],by simp[g6]⟩
   | true =>
    obtain⟨cs,ws,wc⟩:=S.cs;obtain⟨bad,wr⟩:=S.bad;have c7:(8+1<=cs.length)=True:=eq_true (by have:=wc.len; omega);simp only[push_cast,g2,g4,g5,g6,hn,c1,c2,c3,c4,c5,c6,c7,wb,hz,Nat.mul_one,bound,Option.map_none,ws,xk,Nat.zero_mul,Nat.add_zero,Nat.sub_zero,simprocAttr];exact⟨b,o,n-1,xs,SB.setS ws wr (wc.set8 true) (by omega),by rw[set_ne (by omega)]; exact wt,fun j hj=>by rw[set_ne (by omega)]; exact wo j hj,by rw[set_ne (by omega)]; exact wb,hb,by omega,hxl,hxs,by simp[g2],by simp[g4],by simp[g5],by simp⟩
  ·simp only[push_cast,g2,g4,g5,g6,hn,simprocAttr];exact⟨b,o,n,xs,S,wt,wo,wb,hb,hon,hxl,hxs,by simp[g2],by simp[g4],by simp[g5],by simp[g6]⟩
 clear g2 g4 g5 g6 g S wt wo wb hb hon hxl hxs W b o n xs;rintro g W ⟨b,o,n,xs,S,wt,wo,wb,hb,hon,hxl,hxs,g2,g4,g5,g6⟩;refine post_mid hE.mono (PZ h) ?_ ?_
 ·cases hn:((n:Int)==1) with
  | false =>
   simp only[push_cast,g2,g4,g5,g6,hn,simprocAttr];exact⟨b,o,n,xs,S,wt,wo,wb,hb,hon,hxl,hxs,by simp[g2],by simp[g4],by simp[g5],by simp[g6]⟩
  | true =>
   have hn1:(n:Int)=1:=beq_iff_eq.1 hn;have c3:(0<(n:Int))=True:=eq_true (by omega);have c5:=strs_get (xs:=xs) (i:=o) (by omega);have c6:=hxs o;generalize xs.getD o ⟨#[]⟩=z at c5 c6;obtain⟨z',ok,e50,z2⟩:=c50 hE hL (lim:=lim) (h:=W) z (by omega);cases ok with
   | false =>
    simp only[push_cast,g2,g4,g5,g6,hn,c3,c5,wb,e50,Nat.mul_one,Nat.zero_mul,Nat.add_zero,simprocAttr];exact⟨b,o,n,xs,S,wt,wo,wb,hb,hon,hxl,hxs,by simp[g2],by simp[g4],by simp[g5],by simp[g6]⟩
   | true =>
    have lW:=lt_of_get wb;obtain⟨v,h',e49,b',ys,A,hb',rfl,e1,e2,e3⟩:=(c49 hE (lim:=lim) (h:=W) z' (by omega) (by omega)).out;have AW:∀j,j<W.length->h'[j]?=W[j]?:=fun j hj=>by rw[List.getElem?_eq_getElem hj]; exact A _ _ (List.getElem?_eq_getElem hj)
    simp only[push_cast,g2,g4,g5,g6,hn,c3,c5,wb,e50,Nat.mul_one,Nat.zero_mul,Nat.add_zero,e49,simprocAttr];exact⟨b',0,ys.length,ys,S.keep AW,A _ _ wt,fun j hj=>(AW j (by omega)).trans (wo j hj),e1,by omega,by omega,by omega,fun j=>by have:=e3 j; omega,by simp[g2],by simp[g4],by simp[g5],by simp⟩
 clear g2 g4 g5 g6 g S wt wo wb hb hon hxl hxs W b o n xs;rintro g W ⟨b,o,n,xs,S,wt,wo,wb,hb,hon,hxl,hxs,g2,g4,g5,g6⟩;refine post_mid hE.mono (PZ h) ?_ ?_
 ·obtain⟨bad,wr⟩:=S.bad;have wr':=wr;unfold bB at wr';simp only[push_cast,g2,g4,g5,g6,wr',xk,simprocAttr];exact⟨b,o,n,xs,S.setB _ (by omega),by rw[set_ne (by omega)]; exact wt,fun j hj=>by rw[set_ne (by omega)]; exact wo j hj,by rw[set_ne (by omega)]; exact wb,hb,hon,hxl,hxs,by simp[g2],by simp[g4],by simp[g5],by simp[g6]⟩
 clear g2 g4 g5 g6 g S wt wo wb hb hon hxl hxs W b o n xs;rintro g W ⟨b,o,n,xs,S,wt,wo,wb,hb,hon,hxl,hxs,g2,g4,g5,g6⟩;refine post_mid hE.mono (PZ h) ?_ ?_
 ·by_cases hn:(n:Int)>0
  ·have c3:(0<(n:Int))=True:=eq_true (by omega);have c4:(1<=(n:Int))=True:=eq_true (by omega);have c5:=strs_get (xs:=xs) (i:=o) (by omega);have c6:=hxs o;generalize xs.getD o ⟨#[]⟩=z at c5 c6;obtain⟨d,ok,e51⟩:=c51 hE hI hC hL (lim:=lim) (h:=W) z (by omega);cases ok with
   | false =>
    simp only[push_cast,g2,g4,g5,g6,hn,c3,c5,wb,e51,Nat.mul_one,Nat.zero_mul,Nat.add_zero,simprocAttr];exact⟨b,o,n,xs,S,wt,wo,wb,hb,hon,hxl,hxs,by simp[g2],by simp[g4],by simp[g5],by simp[g6]⟩
   | true =>
    obtain⟨cs,ws,wc⟩:=S.cs;obtain⟨bad,wr⟩:=S.bad;have c7:(0+1<=cs.length)=True:=eq_true (by have:=wc.len; omega);have c8:(1<=cs.length)=True:=eq_true (by have:=wc.len; omega);simp only[push_cast,g2,g4,g5,g6,hn,c3,c4,c5,c7,c8,wb,e51,Nat.mul_one,Nat.zero_mul,Nat.add_zero,bound,Option.map_none,ws,xk,simprocAttr];exact⟨b,o+1,n-1,xs,SB.setS ws wr (wc.set0 d) (by omega),by rw[set_ne (by omega)]; exact wt,fun j hj=>by rw[set_ne (by omega)]; exact wo j hj,by rw[set_ne (by omega)]; exact wb,hb,by omega,hxl,hxs,by simp[g2],by simp[g4],by simp[g5],by simp⟩
  ·simp only[push_cast,g2,g4,g5,g6,hn,simprocAttr];exact⟨b,o,n,xs,S,wt,wo,wb,hb,hon,hxl,hxs,by simp[g2],by simp[g4],by simp[g5],by simp[g6]⟩
 clear g2 g4 g5 g6 g S wt wo wb hb hon hxl hxs W b o n xs;rintro g W ⟨b,o,n,xs,S,wt,wo,wb,hb,hon,hxl,hxs,g2,g4,g5,g6⟩;refine post_mid hE.mono (PZ h) ?_ ?_
 ·by_cases hn:(n:Int)>0
  ·have c3:(0<(n:Int))=True:=eq_true (by omega);have c4:(1<=(n:Int))=True:=eq_true (by omega);have c5:=strs_get (xs:=xs) (i:=o) (by omega);have c6:=hxs o;generalize xs.getD o ⟨#[]⟩=z at c5 c6;obtain⟨r,e52⟩:=c52 hE hI (lim:=lim) (h:=W) z ⟨#[58]⟩ (by omega) (by show 1<1000000; omega);cases r with
   | true =>
    simp only[push_cast,g2,g4,g5,g6,hn,c3,c5,wb,e52,Nat.mul_one,Nat.zero_mul,Nat.add_zero,simprocAttr];exact⟨b,o,n,xs,S,wt,wo,wb,hb,hon,hxl,hxs,by simp[g2],by simp[g4],by simp[g5],by simp[g6]⟩
   | false =>
    have lW:=lt_of_get wb;obtain⟨v,h',e53,rfl,S',A,hl'⟩:=(c53 hE hI hC hD hP (lim:=lim) (h:=W) S (by omega) (by omega) (by omega) z (by omega)).out;simp only[push_cast,g2,g4,g5,g6,hn,c3,c4,c5,wb,e52,e53,Nat.mul_one,Nat.zero_mul,Nat.add_zero,bound,Option.map_none,simprocAttr];exact⟨b,o+1,n-1,xs,S',by rw[A _ (by omega) (by omega) (by omega)]; exact wt,fun j hj=>by rw[A _ (by omega) (by omega) (by omega)]; exact wo j hj,by rw[A _ lW (by omega) (by omega)]; exact wb,hb,by omega,hxl,hxs,by simp[g2],by simp[g4],by simp[g5],by simp⟩
  ·simp only[push_cast,g2,g4,g5,g6,hn,simprocAttr];exact⟨b,o,n,xs,S,wt,wo,wb,hb,hon,hxl,hxs,by simp[g2],by simp[g4],by simp[g5],by simp[g6]⟩
 clear g2 g4 g5 g6 g S wt wo wb hb hon hxl hxs W b o n xs;rintro g W ⟨b,o,n,xs,S,wt,wo,wb,hb,hon,hxl,hxs,g2,g4,g5,g6⟩;refine post_mid hE.mono (PZ h) ?_ ?_
 ·refine post_mid hE.mono (fun g' W'=>W=W'/\g'.rd 101=.bool (decide ((n:Int)>0))/\g'.rd 2=.pointer (some ⟨h.length,0,none⟩)/\g'.rd 4=.pointer (some ⟨h.length+1,0,none⟩)/\g'.rd 5=.pointer (some ⟨h.length+5,0,none⟩)/\g'.rd 6=.slice (some ⟨b,o,none⟩) n 1) (by simp only[push_cast,g2,g4,g5,g6,simprocAttr]) ?_;clear g2 g4 g5 g6 g;rintro g W' ⟨rfl,g101,g2,g4,g5,g6⟩
  by_cases hn:(n:Int)>0
  ·refine post_ct hE (g101.trans (by rw[decide_eq_true hn])) ?_;have c3:(0<(n:Int))=True:=eq_true (by omega);have c4:(1<=(n:Int))=True:=eq_true (by omega);have c5:=strs_get (xs:=xs) (i:=o) (by omega);have c6:=hxs o;generalize xs.getD o ⟨#[]⟩=z at c5 c6;have lW:=lt_of_get wb;obtain⟨v,h',e54,ts,rfl,rfl,t1,t2,t3⟩:=(c54 hE hI hC (lim:=lim) (h:=W) z 58 (by omega) (by omega)).out;refine post_mid hE.mono (fun g' W'=>W++[.cells true (strs ts)]=W'/\g'.rd 12=.slice (some ⟨W.length,0,none⟩) ts.length 1/\g'.rd 2=.pointer (some ⟨h.length,0,none⟩)/\g'.rd 4=.pointer (some ⟨h.length+1,0,none⟩)/\g'.rd 5=.pointer (some ⟨h.length+5,0,none⟩)/\g'.rd 6=.slice (some ⟨b,o,none⟩) n 1) (by simp only[push_cast,g2,g4,g5,g6,c3,c5,wb,e54,Nat.mul_one,Nat.zero_mul,Nat.add_zero,simprocAttr]) ?_;clear g101 g2 g4 g5 g6 g;rintro g W' ⟨rfl,g12,g2,g4,g5,g6⟩;refine post_mid hE.mono (fun g' Y=>∃(c:Nat) (ys:List ByteArray),SB Y (h.length+1) (h.length+5)/\Y[c]?=some (.cells true (strs ys))/\ys.length<900000/\(∀j,(ys.getD j ⟨#[]⟩).size<900000)/\h.length+5<c/\(∀j,j<W.length->Y[j]?=W[j]?)/\W.length<=Y.length/\g'.rd 12=.slice (some ⟨c,0,none⟩) ys.length 1/\g'.rd 2=.pointer (some ⟨h.length,0,none⟩)/\g'.rd 4=.pointer (some ⟨h.length+1,0,none⟩)/\g'.rd 5=.pointer (some ⟨h.length+5,0,none⟩)/\g'.rd 6=.slice (some ⟨b,o,none⟩) n 1) ?_ ?_
   ·cases h2:((ts.length:Int)==2) with
    | false =>
     simp only[push_cast,g12,g2,g4,g5,g6,h2,simprocAttr];refine⟨W.length,ts,S.grow _,get_app0,by omega,fun j=>by have:=t3 j; omega,by omega,fun j hj=>get_lt hj,by omega,rfl⟩
    | true =>
     have k6:((ts.length+1)*16<=140737488355328)=True:=eq_true (by omega);simp only[push_cast,g12,g2,g4,g5,g6,h2,k6,srcOf,strs_len,Nat.mul_one,simprocAttr];refine⟨W.length+2,ts++[⟨#[48,48]⟩],S.keep fun j hj=>get_lt hj,?_,by simp; omega,sget_app (fun j=>by have:=t3 j; omega) (by decide),by omega,fun j hj=>get_lt hj,by omega,by simp⟩;rw[get_app];simp[strs]
   clear g12 g2 g4 g5 g6 g;rintro g Y ⟨c,ys,SY,yc,y1,y2,y3,yo,yl,g12,g2,g4,g5,g6⟩;obtain⟨l,e55⟩:=c55' hE (lim:=lim) (h:=Y) (h.length+5) (by omega);have lc:=lt_of_get yc;obtain⟨v,h',e56,r1,r2,r3⟩:=(c56 hE hI hC hD hP (lim:=lim) (h:=Y++(l++[.cells true (allF (h.length+5))])) (bf:=Y.length+l.length) (bt:=c) (f3_time (h.length+5)) y1 y2 (SY.grow _) (by rw[get_app,get_app0]; rfl) (get_old yc) (by omega) (by omega) (by omega) (by omega) (by omega) (by omega) (by omega)).out;have r3':Y.length<=h'.length:=by simp at r3; omega
   have r4:∀j,j<W.length->j≠h.length+5->j≠h.length+1->h'[j]?=W[j]?:=fun j j1 j2 j3=>by
    rw[r2 j (by simp; omega) j2 j3,get_lt (by omega)];exact yo j j1
   have k1:∀q:Prop,(lim<=Y.length+l.length\/q)=True:=fun q=>by simp; omega
   have k2:∀x y:Blk,(Y++(l++[x])).set (Y.length+l.length) y=Y++(l++[y]):=fun x y=>by rw[<- List.append_assoc,set_appC0 (by simp)]; simp
   have k3:∀x:Blk,(Y++(l++[x]))[Y.length+l.length]?=some x:=fun x=>by rw[<- List.append_assoc]; exact get_appC0 (by simp)
   simp only[allF] at e55 e56;simp only[push_cast,g2,g4,g5,g6,g12,e55,List.length_append,List.append_assoc,k1,k2,k3,bound,Option.map_none,e56,c4,Nat.mul_one,simprocAttr];exact⟨b,o+1,n-1,xs,r1,by rw[r4 _ (by omega) (by omega) (by omega)]; exact wt,fun j hj=>by rw[r4 _ (by omega) (by omega) (by omega)]; exact wo j hj,by rw[r4 _ lW (by omega) (by omega)]; exact wb,hb,by omega,hxl,hxs,by simp[g2],by simp[g4],by simp[g5],by simp⟩
  ·refine post_cf hE (g101.trans (by rw[decide_eq_false hn])) ?_;simp only[push_cast,g2,g4,g5,g6,simprocAttr];exact⟨b,o,n,xs,S,wt,wo,wb,hb,hon,hxl,hxs,by simp[g2],by simp[g4],by simp[g5],by simp[g6]⟩
 clear g2 g4 g5 g6 g S wt wo wb hb hon hxl hxs W b o n xs;rintro g W ⟨b,o,n,xs,S,wt,wo,wb,hb,hon,hxl,hxs,g2,g4,g5,g6⟩;obtain⟨cs,ws,wc⟩:=S.cs;obtain⟨bad,wr⟩:=S.bad;obtain⟨s,rfl,sI,sB⟩:=wc.sd;have lW:=lt_of_get wb;obtain⟨v,h',e57,s',e,rfl,A,sI',sB',sN'⟩:=(c57 hE hLn (lim:=lim) (h:=W) sI sB (by omega)).out;have Al:=A.le;have x6:∀q:Prop,(lim<=h'.length\/q)=True:=fun q=>by simp; omega
 refine post_mid hE.mono (fun g' Y=>h'++[.cells true s'.cv]=Y/\g'.rd 2=.pointer (some ⟨h.length,0,none⟩)/\g'.rd 4=.pointer (some ⟨h.length+1,0,none⟩)/\g'.rd 6=.slice (some ⟨b,o,none⟩) n 1/\g'.rd 14=.pointer (some ⟨h'.length,0,none⟩)/\g'.rd 15=.int .i64 e) (by simp only[SD.cv] at ws e57; simp only[push_cast,g2,g4,g5,g6,ws,e57,x6,SD.cv,simprocAttr]) ?_;clear g2 g4 g5 g6 g;rintro g Y ⟨rfl,g2,g4,g6,g14,g15⟩;have A':=A.trans (Agr.app h' [.cells true s'.cv]);have yr:=A' _ _ wr;have yt:=A' _ _ wt;have lyt:=lt_of_get yt
 have Ah:∀x,Agr h ((h'++[Blk.cells true s'.cv]).set h.length x):=fun x j k ek=>by
  have:=lt_of_get ek;rw[set_ne (by omega)];exact A' _ _ ((wo j this).trans ek)
 have x7:∀q:Prop,(lim<=h.length\/q)=True:=fun q=>by simp[hlim]
 unfold bB at yr;have errc:∃(s:SD) (e:Int),Value.tuple #[.agg zSD.cv.toArray,.int .i64 90]=.tuple #[.agg s.cv.toArray,.int .i64 e]/\Agr h ((h'++[Blk.cells true s'.cv]).set h.length (.cells true zSD.cv))/\s.In ((h'++[Blk.cells true s'.cv]).set h.length (.cells true zSD.cv))/\s.Bd/\s.New h.length:=⟨zSD,90,rfl,Ah _,zSD_in _,zSD_bd,zSD_new _⟩;simp only[zSD,SD.cv,nilPD] at yt errc;have y14:∀x,((h'++[Blk.cells true s'.cv]).set h.length x)[h'.length]?=some (.cells true s'.cv):=fun x=>by rw[set_ne (by omega)]; exact get_app0
 have y14':(h'++[Blk.cells true s'.cv])[h'.length]?=some (.cells true s'.cv):=get_app0;simp only[SD.cv] at yr yt y14 y14' errc lyt;cases bad with
 | true =>
  simp only[push_cast,g2,g4,g6,g14,g15,yr,yt,SD.cv,set_get lyt,simprocAttr];exact errc
 | false =>
  by_cases hn:(n:Int)>0
  ·simp only[push_cast,g2,g4,g6,g14,g15,yr,yt,SD.cv,set_get lyt,hn,simprocAttr];exact errc
  ·cases he:(e==0) with
   | false =>
    simp only[push_cast,g2,g4,g6,g14,g15,yr,yt,SD.cv,set_get lyt,hn,he,simprocAttr];exact errc
   | true =>
    simp only[push_cast,g2,g4,g6,g14,g15,yr,yt,y14',SD.cv,set_get lyt,hn,he,x7,simprocAttr];exact⟨s',0,rfl,Ah _,sN'.In sI' fun j k j1 e=>by rw[set_ne (by omega)]; exact get_old e,sB',sN'.le (by omega)⟩
end
section
open Tb
def ZN.New (Z:ZN)(lo:Nat):Prop:=lo<=Z.b/\(∀R,Z.R=some R->lo<=Z.r)/\(∀A,Z.z.ta=some A->lo<=A.block)/\(∀A,Z.z.ma=some A->lo<=A.block)/\(∀A,Z.z.xa=some A->lo<=A.block)
def ZN.mem (Z:ZN)(b:Nat):Prop:=b=Z.b\/(∃R,Z.R=some R/\b=Z.r)\/(∃A,(Z.z.ta=some A\/Z.z.ma=some A\/Z.z.xa=some A)/\b=A.block)
def FlatRow (W:Hp)(a:Option Addr):Prop:=∀A,a=some A->∃b own cs,A=⟨b,0,none⟩/\W[b]?=some (.cells own cs)/\cs.all Q.flatQ=true
structure ZN.Shut (Z:ZN)(W:Hp):Prop where
 blk:∃own,W[Z.b]?=some (.cells own [.slice Z.z.ta Z.z.tn Z.z.te,.slice Z.z.ma Z.z.mn Z.z.me,.slice Z.z.xa Z.z.xn Z.z.xe,.string Z.z.ft,Z.rp])
 rule:∀R,Z.R=some R->∃own,W[Z.r]?=some (.cells own R.cs)
 ta:FlatRow W Z.z.ta
 ma:FlatRow W Z.z.ma
 xa:FlatRow W Z.z.xa
theorem FlatRow.agr {W X:Hp}{a:Option Addr}(H:FlatRow W a)(h:∀A,a=some A->X[A.block]?=W[A.block]?):FlatRow X a:=fun A hA=>by
 obtain⟨b,own,cs,rfl,e,f⟩:=H A hA;exact⟨b,own,cs,rfl,(h _ hA).trans e,f⟩
theorem ZN.Shut.agr {Z:ZN}{W X:Hp}(H:Z.Shut W)(h:∀b,Z.mem b->X[b]?=W[b]?):Z.Shut X:=by
 obtain⟨⟨own,e⟩,r,t,m,x⟩:=H;exact⟨⟨own,(h _ (.inl rfl)).trans e⟩,fun R hR=>let⟨o,q⟩:=r R hR; ⟨o,(h _ (.inr (.inl ⟨R,hR,rfl⟩))).trans q⟩,t.agr fun A hA=>h _ (.inr (.inr ⟨A,.inl hA,rfl⟩)),m.agr fun A hA=>h _ (.inr (.inr ⟨A,.inr (.inl hA),rfl⟩)),x.agr fun A hA=>h _ (.inr (.inr ⟨A,.inr (.inr hA),rfl⟩))⟩
theorem OwnW.flat {k:Nat}{h:Hp}{lo n e:Nat}{a:Option Addr}{ev:Nat->List Value}(H:OwnW k h lo a n e ev)(hf:∀j,j<n->(ev j).all Q.flatQ=true):FlatRow h a:=fun A hA=>by
 rcases H with⟨rfl,_⟩ | ⟨b,cs,rfl,_,_,h3,h4,h5⟩
 ·cases hA
 ·cases hA;have:=chunk_all (p:=Q.flatQ) (k:=k) (cs:=cs) (o:=0) (ev:=ev) n (fun j hj=>by rw[Nat.zero_add]; exact h5 j hj) hf;rw[List.drop_zero,<- h4,List.take_length] at this;exact⟨b,true,cs,rfl,h3,this⟩
theorem FlatRow.lt {W:Hp}{a:Option Addr}(H:FlatRow W a){A:Addr}(h:a=some A):A.block<W.length:=by
 obtain⟨b,own,cs,rfl,e,_⟩:=H A h;exact lt_of_get e
theorem ZN.Shut.lt {Z:ZN}{W:Hp}{b:Nat}(H:Z.Shut W)(h:Z.mem b):b<W.length:=by
 rcases h with rfl | ⟨R,hR,rfl⟩ | ⟨A,hA | hA | hA,rfl⟩
 ·exact lt_of_get H.blk.choose_spec
 ·exact lt_of_get (H.rule R hR).choose_spec
 ·exact H.ta.lt hA
 ·exact H.ma.lt hA
 ·exact H.xa.lt hA
theorem eqAgr {h X:Hp}(A:Agr h X){b:Nat}(hb:b<h.length):X[b]?=h[b]?:=by
 rw[List.getElem?_eq_getElem hb];exact A _ _ (List.getElem?_eq_getElem hb)
theorem OwnW.low {k:Nat}{h:Hp}{lo n e:Nat}{a:Option Addr}{ev:Nat->List Value}(H:OwnW k h lo a n e ev):∀A,a=some A->lo<=A.block:=by
 intro A hA;rcases H with⟨rfl,_⟩ | ⟨b,cs,rfl,_,h2,_⟩
 ·cases hA
 ·cases hA; exact h2
variable {E:Env}(hE:EnvT E){lim:Nat}{h:Hp}
include hE
theorem c37 (hA:AtoiOk E){z:ZD}(H:z.In h)(hlim:lim<=h.length):PostV (evI E lim (.func 37) [.agg #[.slice z.ta z.tn z.te,.slice z.ma z.mn z.me,.slice z.xa z.xn z.xe,.string z.ft]] h) fun v h'=>∃(Z:Option ZN) (e:Int),v=.tuple #[zv Z,.int .i64 e]/\Agr h h'/\zin Z h'/\(e=0->∃Y,Z=some Y)/\∀Y,Z=some Y->Y.New h.length/\Y.Shut h':=by
 obtain⟨v,h',e71,rfl,r,rfl,hr⟩:=(c71 hE (lim:=lim) (h:=h++[.cells true z.cs]) H.grow).out;refine post_fn hE T37 (Nat.le_of_ble_eq_true rfl) ?_;show Post (evK E lim ac37 _ _) _;unfold ac37;simp only[ZD.cs] at e71;refine post_mid hE.mono (fun g W=>h++[.cells true z.cs]=W/\g.rd 1=.pointer (some ⟨h.length,0,none⟩)) (by simp only[push_cast,ZD.cs,simprocAttr]) ?_;rintro g W ⟨rfl,g1⟩;cases r with
 | false =>
  simp only[push_cast,g1,ZD.cs,e71,simprocAttr];exact⟨none,2,rfl,Agr.app _ _,(fun Y hY=>by cases hY),(fun h=>by cases h),fun Y hY=>by cases hY⟩
 | true =>
  refine post_mid hE.mono (fun g W=>h++[.cells true z.cs]=W/\g.rd 1=.pointer (some ⟨h.length,0,none⟩)) (by simp only[push_cast,g1,ZD.cs,e71,simprocAttr]) ?_;clear g1 g;rintro g W ⟨rfl,g1⟩;have R:=hr rfl;have sm:=H.small;obtain⟨v,h1,e72,a1,n1,l1,rfl,rfl,O1⟩:=(c72 hE (lim:=lim) (h:=h++[.cells true z.cs]) H.tw.grow (by omega) (fun j _=>rfl)).out;obtain⟨v,h1,e73,a2,n2,l2,rfl,rfl,O2⟩:=(c73 hE (lim:=lim) (h:=h++[.cells true z.cs]++l1) H.mw.grow.grow (by omega) (fun j _=>rfl)).out;obtain⟨v,h1,e74,a3,n3,l3,rfl,rfl,O3⟩:=(c74 hE (lim:=lim) (h:=h++[.cells true z.cs]++l1++l2) H.xw.grow.grow.grow (by omega) (fun j _=>rfl)).out;have x0:∀q:Prop,(lim<=h.length\/q)=True:=fun q=>by simp[hlim]
  refine post_mid hE.mono (fun g X=>Agr h X/\X[h.length]?=some (.cells true [.slice a1 z.tn n1,.slice a2 z.mn n2,.slice a3 z.xn n3,.string z.ft])/\OwnW 3 X (h.length+1) a1 z.tn n1 (fun j=>[.int .i64 (z.off j),.bool (z.dst j),.string (z.ab j)])/\OwnW 1 X (h.length+1) a2 z.mn n2 (fun j=>[.int .i64 (z.tm j)])/\OwnW 1 X (h.length+1) a3 z.xn n3 (fun j=>[.int .i64 (z.ix j)])/\g.rd 1=.pointer (some ⟨h.length,0,none⟩)) ?_ ?_
  ·simp only[ZD.cs,List.append_assoc,List.cons_append,List.nil_append] at e72 e73 e74;simp only[push_cast,g1,ZD.cs,e72,e73,e74,sureL,x0,List.append_assoc,simprocAttr]
   have hset:h++Blk.cells true [.slice a1 z.tn n1,.slice a2 z.mn n2,.slice a3 z.xn n3,.string z.ft]::(l1++(l2++l3))=(h++[Blk.cells true z.cs]++l1++l2++l3).set h.length (.cells true [.slice a1 z.tn n1,.slice a2 z.mn n2,.slice a3 z.xn n3,.string z.ft]):=by
    simp only[List.append_assoc,List.cons_append,List.nil_append];rw[set_app0,List.set_cons_zero]
   have hmv:∀ {k n e:Nat} {a:Option Addr} {ev:Nat->List Value} (lo:Nat),h.length+1<=lo->OwnW k (h++[Blk.cells true z.cs]++l1++l2++l3) lo a n e ev->OwnW k (h++Blk.cells true [.slice a1 z.tn n1,.slice a2 z.mn n2,.slice a3 z.xn n3,.string z.ft]::(l1++(l2++l3))) (h.length+1) a n e ev:=by
    intro k n e a ev lo hlo O;rw[hset];rcases O with O | ⟨b,cs,o1,o2,o3,o4,o5⟩
    ·exact .inl O
    ·exact .inr ⟨b,cs,o1,o2,by omega,by rw[set_ne (by omega)]; exact o4,o5⟩
   exact⟨Agr.app _ _,hmv _ (by simp) O1.grow.grow,hmv _ (by simp) O2.grow,hmv _ (by simp) O3⟩
  clear g1 g e71 e72 e73 e74 O1 O2 O3;rintro g X ⟨A,xb,O1,O2,O3,g1⟩;have lb:=lt_of_get xb;have x6:∀q:Prop,(lim<=X.length\/q)=True:=fun q=>by simp; omega
  refine post_mid hE.mono (fun g Y=>X++[.cells true [.slice a1 z.tn n1,.slice a2 z.mn n2,.slice a3 z.xn n3,.string z.ft,.pointer none]]=Y/\g.rd 1=.pointer (some ⟨h.length,0,none⟩)/\g.rd 4=.pointer (some ⟨X.length,0,none⟩)) (by simp only[push_cast,g1,xb,simprocAttr]) ?_;clear g1 g;rintro g Y ⟨rfl,g1,g4⟩;have yb:∀l,(X++l)[h.length]?=some (.cells true [.slice a1 z.tn n1,.slice a2 z.mn n2,.slice a3 z.xn n3,.string z.ft]):=fun l=>get_old xb
  have mk:∀(Y:Hp) (Rr:Option RD) (r:Nat),Agr X Y->(Y[X.length]?=some (.cells true [.slice a1 z.tn n1,.slice a2 z.mn n2,.slice a3 z.xn n3,.string z.ft,(⟨⟨a1,z.tn,n1,z.off,z.dst,z.ab,a2,z.mn,n2,z.tm,a3,z.xn,n3,z.ix,z.ft⟩,Rr,X.length,r⟩:ZN).rp]))->(∀R,Rr=some R->(∃own,Y[r]?=some (.cells own R.cs))/\R.std.size<1000000/\R.dst.size<1000000)->(∀R,Rr=some R->R.Right)->(⟨⟨a1,z.tn,n1,z.off,z.dst,z.ab,a2,z.mn,n2,z.tm,a3,z.xn,n3,z.ix,z.ft⟩,Rr,X.length,r⟩:ZN).In Y :=
   fun Y Rr r AY e1 e2 e3=>⟨⟨true,e1⟩,⟨O1.W.agr AY,O2.W.agr AY,O3.W.agr AY,sm⟩,e2,R.tn,R.mn,R.off,R.tu,e3⟩
  have sh:∀(Y:Hp) (Rr:Option RD) (r:Nat),Agr X Y->(Y[X.length]?=some (.cells true [.slice a1 z.tn n1,.slice a2 z.mn n2,.slice a3 z.xn n3,.string z.ft,(⟨⟨a1,z.tn,n1,z.off,z.dst,z.ab,a2,z.mn,n2,z.tm,a3,z.xn,n3,z.ix,z.ft⟩,Rr,X.length,r⟩:ZN).rp]))->(∀R,Rr=some R->∃own,Y[r]?=some (.cells own R.cs))->(⟨⟨a1,z.tn,n1,z.off,z.dst,z.ab,a2,z.mn,n2,z.tm,a3,z.xn,n3,z.ix,z.ft⟩,Rr,X.length,r⟩:ZN).Shut Y :=
   fun Y Rr r AY e1 e2=>⟨⟨true,e1⟩,e2,(O1.flat fun j _=>rfl).agr fun A hA=>eqAgr AY (FlatRow.lt (O1.flat fun j _=>rfl) hA),(O2.flat fun j _=>rfl).agr fun A hA=>eqAgr AY (FlatRow.lt (O2.flat fun j _=>rfl) hA),(O3.flat fun j _=>rfl).agr fun A hA=>eqAgr AY (FlatRow.lt (O3.flat fun j _=>rfl) hA)⟩
  have nw:∀(Rr:Option RD) (r:Nat),(∀R,Rr=some R->h.length<=r)->(⟨⟨a1,z.tn,n1,z.off,z.dst,z.ab,a2,z.mn,n2,z.tm,a3,z.xn,n3,z.ix,z.ft⟩,Rr,X.length,r⟩:ZN).New h.length:=fun Rr r hr=>⟨by show h.length<=X.length; omega,hr,fun A hA=>by have:=O1.low A hA; omega,fun A hA=>by have:=O2.low A hA; omega,fun A hA=>by have:=O3.low A hA; omega⟩;cases hf:z.ft.toList==(⟨#[]⟩:ByteArray).toList with
  | true =>
   simp only[push_cast,g1,g4,yb,hf,simprocAttr];exact⟨some _,0,rfl,A.trans (Agr.app _ _),(fun Y hY=>by cases hY; exact mk _ none 0 (Agr.app _ _) get_app0 (fun R hR=>by cases hR) (fun R hR=>by cases hR)),(fun _=>⟨_,rfl⟩),fun Y hY=>by cases hY; exact⟨nw none 0 (fun R hR=>by cases hR),sh _ none 0 (Agr.app _ _) get_app0 (fun R hR=>by cases hR)⟩⟩
  | false =>
   obtain⟨v,h',e75,rfl,r,e,rfl,s1,s2,s3⟩:=(c75 hE (lim:=lim) (h:=X++[.cells true [.slice a1 z.tn n1,.slice a2 z.mn n2,.slice a3 z.xn n3,.string z.ft,.pointer none]]) hA z.ft).out;simp only[RD.cs] at e75;cases he:(e==0) with
   | false =>
    have he':e≠0:=by simpa using he
    simp only[push_cast,g1,g4,yb,hf,e75,he,simprocAttr];exact⟨none,e,rfl,A.trans (Agr.app _ _),(fun Y hY=>by cases hY),(fun h=>absurd h he'),fun Y hY=>by cases hY⟩
   | true =>
    simp only[push_cast,g1,g4,yb,hf,e75,he,x6,simprocAttr];refine⟨some _,0,rfl,A.trans (Agr.app _ _),(fun Y hY=>by cases hY; exact mk _ (some r) (X.length+1) (Agr.app _ _) get_app0 (fun R hR=>by cases hR; exact⟨⟨true,by rw[get_app]; rfl⟩,s1,s2⟩) (fun R hR=>by cases hR; exact s3 (by simpa using he))),(fun _=>⟨_,rfl⟩),fun Y hY=>by cases hY; exact⟨nw (some r) (X.length+1) (fun R hR=>by omega),sh _ (some r) (X.length+1) (Agr.app _ _) get_app0 (fun R hR=>by cases hR; exact⟨true,by rw[get_app]; rfl⟩)⟩⟩
end
section
open Tb
noncomputable def aftV (E:Env)(W:Hp)(s:SD)(Z:Option ZN)(u:Int):Option Int:=match evI E 0 (.func 21) [.agg s.cv.toArray,zv Z,.int .i64 u] W with
 | some (.tuple #[.int .i64 n,.bool true],_)=>some n
 | _=>none
def Made (E:Env)(W:Hp)(s:SD)(t:ByteArray)(lo hi:Nat):Prop:=∃(l:Nat) (h0 h1:Hp) (e:Int),evI E l (.func 16) [.string t] h0=some (.tuple #[.agg s.cv.toArray,.int .i64 e],h1)/\l<=h0.length/\h0.length=lo/\h1.length=hi/\∀j,lo<=j->j<hi->W[j]?=h1[j]?
theorem Made.of {E:Env}{W X:Hp}{s:SD}{t:ByteArray}{lo hi:Nat}(M:Made E W s t lo hi)(h:∀j,lo<=j->j<hi->X[j]?=W[j]?):Made E X s t lo hi:=by
 obtain⟨l,h0,h1,e,e1,e2,e3,e4,e5⟩:=M;exact⟨l,h0,h1,e,e1,e2,e3,e4,fun j j1 j2=>(h j j1 j2).trans (e5 j j1 j2)⟩
def zmem:Option ZN->Nat->Prop
 | none,_=>False
 | some Z,b=>Z.mem b
def zshut (Z:Option ZN)(W:Hp):Prop:=∀Y,Z=some Y->Y.Shut W
theorem zshut.agr {Z:Option ZN}{W X:Hp}(H:zshut Z W)(h:∀b,zmem Z b->X[b]?=W[b]?):zshut Z X:=fun Y hY=>by
 subst hY;exact(H Y rfl).agr h
section
open Q
theorem Q.VR.of_tuple1 {m:Mq}{x y x' y':Value}(h:Q.VR m (.tuple #[x,y]) (.tuple #[x',y'])):Q.VR m x x':=by
 obtain⟨ys,e,hl⟩:=h.tup';cases e;exact hl.head
open Classical in
theorem after_same {E:Env} (hM:EnvMono E) (hQ:EnvQ E) {W W':Hp} {s s':SD} {t:ByteArray} {lo hi lo' hi':Nat} (M:Made E W s t lo hi) (M':Made E W' s' t lo' hi') {Z:Option ZN} (S:zshut Z W) (SW:∀b,zmem Z b->W'[b]?=W[b]?)
  (d:∀b,zmem Z b->b<lo\/hi<=b) (d':∀b,zmem Z b->b<lo'\/hi'<=b) {lim:Nat} {u:Int} {r r':Value} {X X':Hp} (e:evI E lim (.func 21) [.agg s.cv.toArray,zv Z,.int .i64 u] W=some (r,X)) (e':evI E 0 (.func 21) [.agg s'.cv.toArray,zv Z,.int .i64 u] W'=some (r',X')) (hr:flat r=true):r'=r:=by
 obtain⟨l,h0,h1,q,a1,a2,rfl,rfl,a5⟩:=M;obtain⟨l',h0',h1',q',b1,b2,rfl,rfl,b5⟩:=M';obtain⟨m1,v1,H1,S1⟩:=evI_same hM hQ (m:=fun _=>none) (lim:=l) (lim':=l') (args:=[.string t]) (args':=[.string t]) (h:=h0) (h':=h0') (.cons (.str t) .nil) ⟨(fun b b' h=>by cases h),(fun b c b' h=>by cases h)⟩ b2 (fun b b' h=>by cases h) a1 b1;have vs:=Q.VR.of_tuple1 v1
 have dom:∀b b',m1 b=some b'->h0.length<=b/\b<h1.length/\h0'.length<=b'/\b'<h1'.length:=fun b b' hb=>by
  have n:=S1.new b b' hb rfl;have k:=H1.lt hb;omega
 obtain⟨m,hm⟩:∃m:Mq,m=fun b=>match m1 b with
  | some b'=>some b'
  | none=>if zmem Z b then some b else none:=⟨_,rfl⟩
 have m_1:Q.Sub m1 m:=fun b b' h=>by rw[hm]; simp only[h]
 have m_z:∀b,zmem Z b->m b=some b:=fun b hb=>by
  rw[hm];cases h:m1 b with
  | some b'=>have:=dom b b' h; have:=d b hb; omega
  | none=>simp only[h]; rw[if_pos hb]
 have m_inv:∀b b',m b=some b'->m1 b=some b'\/(zmem Z b/\b'=b):=fun b b' h=>by
  rw[hm] at h;cases h1:m1 b with
  | some c=>simp only[h1] at h; cases h; exact .inl rfl
  | none =>
   simp only[h1] at h;split at h
   ·rename_i hz; cases h; exact .inr ⟨hz,rfl⟩
   ·cases h
 have zb:∀b,zmem Z b->∃k,W[b]?=some k/\Q.BR m k k:=fun b hb=>by
  cases Z with
  | none=>cases hb
  | some Y =>
   have T:=S Y rfl
   have fl:∀(a:Option Addr) (A:Addr),FlatRow W a->a=some A->∃k,W[A.block]?=some k/\Q.BR m k k:=fun a A F hA=>by
    obtain⟨b,own,cs,rfl,e,f⟩:=F A hA;exact⟨_,e,.cells own (.flatQ f)⟩
   have sl:∀(a:Option Addr) (n e:Nat),FlatRow W a->(∀A,a=some A->zmem (some Y) A.block)->Q.VR m (.slice a n e) (.slice a n e):=fun a n e F hz=>by
    cases a with
    | none=>exact .snil n e
    | some A =>
     obtain⟨b,own,cs,rfl,_,_⟩:=F A rfl;exact .sl (m_z _ (hz _ rfl))
   rcases hb with rfl | ⟨R,hR,rfl⟩ | ⟨A,hA | hA | hA,rfl⟩
   ·obtain⟨own,e⟩:=T.blk;refine⟨_,e,.cells own (.cons (sl _ _ _ T.ta fun A hA=>.inr (.inr ⟨A,.inl hA,rfl⟩)) (.cons (sl _ _ _ T.ma fun A hA=>.inr (.inr ⟨A,.inr (.inl hA),rfl⟩)) (.cons (sl _ _ _ T.xa fun A hA=>.inr (.inr ⟨A,.inr (.inr hA),rfl⟩)) (.cons (.str _) (.cons ?_ .nil)))))⟩;unfold ZN.rp;cases hR:Y.R with
    | none=>exact .pnil
    | some R=>exact .ptr (m_z _ (.inr (.inl ⟨R,hR,rfl⟩)))
   ·obtain⟨own,e⟩:=T.rule R hR;exact⟨_,e,.cells own (.flatQ rfl)⟩
   ·exact fl _ _ T.ta hA
   ·exact fl _ _ T.ma hA
   ·exact fl _ _ T.xa hA
 have H:Q.HR m W W':=by
  refine⟨fun b b' h=>?_,fun b c b' h1 h2=>?_⟩
  ·rcases m_inv b b' h with h | ⟨hz,rfl⟩
   ·obtain⟨k,k',e1,e2,e3⟩:=H1.blk b b' h;have:=dom b b' h;exact⟨k,k',(a5 b (by omega) (by omega)).trans e1,(b5 b' (by omega) (by omega)).trans e2,e3.mono m_1⟩
   ·obtain⟨k,e1,e2⟩:=zb _ hz;exact⟨k,k,e1,(SW _ hz).trans e1,e2⟩
  ·rcases m_inv b b' h1 with h1 | ⟨hz1,rfl⟩<;>rcases m_inv c b' h2 with h2 | ⟨hz2,e2⟩
   ·exact H1.inj b c b' h1 h2
   ·subst e2;have:=dom _ _ h1;have:=d' _ hz2;omega
   ·have:=dom _ _ h2;have:=d' _ hz1;omega
   ·exact e2
 have zr:Q.VR m (zv Z) (zv Z):=by
  cases Z with
  | none=>exact .pnil
  | some Y=>exact .ptr (m_z _ (.inl rfl))
 obtain⟨m2,v2,_,_⟩:=evI_same hM hQ (m:=m) (lim:=lim) (lim':=0) (.cons (vs.mono m_1) (.cons zr (.cons (.int _ _) .nil))) H (Nat.zero_le _) (fun _ _ _ _=>Nat.zero_le _) e e';exact v2.flat_same hr
end
structure Asks (E:Env)(W:Hp)(s:SD)(t:ByteArray)(lo hi:Nat)(Z:Option ZN):Prop where
 made:Made E W s t lo hi
 inn:s.In W
 bd:s.Bd
 zin:zin Z W
 shut:zshut Z W
 out:∀b,zmem Z b->b<lo\/hi<=b
variable {E:Env}(hE:EnvT E)(hQ:Q.EnvQ E)
include hE hQ
theorem c21_is (hO:OffsOk E)(hS:SortOk E)(hN:SortNil E){W:Hp}{s:SD}{t:ByteArray}{lo hi:Nat}{Z:Option ZN}(A:Asks E W s t lo hi Z){u:Int}(u1:-9223372036854775808<=u)(u2:u<=9223372036854775807) :
  (∀lim,evI E lim (.func 21) [.agg s.cv.toArray,zv Z,.int .i64 u] W=some (.tuple #[.int .i64 (oi (aftV E W s Z u)),.bool (aftV E W s Z u).isSome],W))/\∀n,aftV E W s Z u=some n->u<n/\0<=n/\n<7258118400000000:=by
 obtain⟨v,h',e0,rfl,hv⟩:=(c21 hE (lim:=0) hO hS hN A.inn A.bd A.zin u1 u2).out;have e0':evI E 0 (.func 21) [.agg s.cv.toArray,zv Z,.int .i64 u] h'=some (v,h'):=e0
 have ha:v=.tuple #[.int .i64 (oi (aftV E h' s Z u)),.bool (aftV E h' s Z u).isSome]/\∀n,aftV E h' s Z u=some n->u<n/\0<=n/\n<7258118400000000:=by
  unfold aftV;rw[e0'];rcases hv with rfl | ⟨n,rfl,h1,h2,h3⟩
  ·exact⟨rfl,fun n h=>by cases h⟩
  ·exact⟨rfl,fun n' h=>by cases h; exact⟨h1,h2,h3⟩⟩
 refine⟨fun lim=>?_,ha.2⟩;obtain⟨v',h2,e1,rfl,hv'⟩:=(c21 hE (lim:=lim) hO hS hN A.inn A.bd A.zin u1 u2).out;have hf:flat v'=true:=by rcases hv' with rfl | ⟨n,rfl,_⟩<;>rfl
 have:=after_same hE.mono hQ A.made A.made A.shut (fun _ _=>rfl) A.out A.out e1 e0' hf;rw[<- ha.1,this];exact e1
theorem aft_same (hO:OffsOk E)(hS:SortOk E)(hN:SortNil E){W W':Hp}{s s':SD}{t:ByteArray}{lo hi lo' hi':Nat}{Z:Option ZN}(A:Asks E W s t lo hi Z)(A':Asks E W' s' t lo' hi' Z)(SW:∀b,zmem Z b->W'[b]?=W[b]?){u:Int}(u1:-9223372036854775808<=u)(u2:u<=9223372036854775807):aftV E W' s' Z u=aftV E W s Z u:=by
 have e:=(c21_is hE hQ hO hS hN A u1 u2).1 0;have e':=(c21_is hE hQ hO hS hN A' u1 u2).1 0;have:=after_same hE.mono hQ A.made A'.made A.shut SW A.out A'.out e e' rfl;simp only[Value.tuple.injEq,Array.mk.injEq,List.cons.injEq,Value.int.injEq,Value.bool.injEq,true_and,and_true] at this;obtain⟨h1,h2⟩:=this;cases hx:aftV E W s Z u with
 | none =>
  rw[hx] at h2;cases hy:aftV E W' s' Z u with
  | none=>rfl
  | some n=>rw[hy] at h2; cases h2
 | some n =>
  rw[hx] at h1 h2;cases hy:aftV E W' s' Z u with
  | none=>rw[hy] at h2; cases h2
  | some n'=>rw[hy] at h1; exact congrArg some h1
end
section
open Tb
structure TK where
 kind:Int
 span:Int
 text:ByteArray
 spec:SD
 base:Int
 spent:Int
def TK.cs (x:TK):List Value:=[.int .u8 x.kind,.int .i64 x.span,.string x.text,.int .u8 x.spec.days,.slice x.spec.yr.a x.spec.yr.n x.spec.yr.e,.slice x.spec.mo.a x.spec.mo.n x.spec.mo.e,.slice x.spec.dy.a x.spec.dy.n x.spec.dy.e,.bool x.spec.en,.slice x.spec.hr.a x.spec.hr.n x.spec.hr.e,.slice x.spec.mi.a x.spec.mi.n x.spec.mi.e,.slice x.spec.se.a x.spec.se.n x.spec.se.e,.bool x.spec.utc,.int .i64 x.base,.int .i64 x.spent]
instance:Inhabited TK:=⟨⟨0,0,⟨#[]⟩,zSD,0,0⟩⟩
def i64r (n:Int):Prop:=-9223372036854775808<=n/\n<=9223372036854775807
structure TK.Ok (x:TK):Prop where
 span:i64r x.span
 base:i64r x.base
 spent:i64r x.spent
structure KN where
 late:Int
 acc:Int
 st:Int
 ac:Int
 up:Int
 dn:Int
 z:Option ZN
structure KN.Ok (k:KN):Prop where
 late:i64r k.late
 acc:i64r k.acc
 st:i64r k.st
 ac:i64r k.ac
 up:i64r k.up
 dn:i64r k.dn
noncomputable def dueK (E:Env)(W:Hp)(k:KN)(x:TK):Option (Bool×Int):=if x.kind=1 then(aftV E W x.spec k.z x.base).map fun n=>(true,n) else(dueF x.kind x.span k.st k.ac k.up k.dn x.spent).map fun n=>(false,n)
def winR (late acc:Int):Option (Bool×Int)->Value
 | none=>.tuple #[.agg #[.bool false,.int .i64 0,.int .i64 0],.agg #[.bool false,.int .i64 0],.bool false]
 | some (r,n)=>.tuple #[.agg #[.bool r,.int .i64 (if aroundF n late acc=true then n+late else 0),.int .i64 (if aroundF n late acc=true then n+late+acc else 0)],.agg #[.bool r,.int .i64 n],.bool (aroundF n late acc)]
def TK.Asked (E:Env)(W:Hp)(z:Option ZN)(x:TK):Prop:=x.kind=1->∃lo hi,Asks E W x.spec x.text lo hi z
theorem Asks.agr {E:Env}{W X:Hp}{s:SD}{t:ByteArray}{lo hi:Nat}{Z:Option ZN}(A:Asks E W s t lo hi Z)(hX:Agr W X):Asks E X s t lo hi Z:=by
 obtain⟨⟨l,h0,h1,e,e1,e2,e3,e4,e5⟩,a2,a3,a4,a5,a6⟩:=A;refine⟨⟨l,h0,h1,e,e1,e2,e3,e4,fun j j1 j2=>?_⟩,a2.agr hX,a3,a4.agr hX,a5.agr fun b hb=>?_,a6⟩
 ·obtain⟨k,hk⟩:∃k,h1[j]?=some k:=⟨_,List.getElem?_eq_getElem (by omega)⟩;rw[hk];exact hX _ _ ((e5 j j1 j2).trans hk)
 ·cases Z with
  | none=>cases hb
  | some Y=>exact eqAgr hX ((a5 Y rfl).lt hb)
structure Conds (E:Env):Prop where
 hE:EnvT E
 hQ:Q.EnvQ E
 hO:OffsOk E
 hI:IdxOk E
 hC:CntOk E
 hD:DecOk E
 hP:ParseOk E
 hL:LowOk E
 hLn:LenOk E
 hS:SortOk E
 hN:SortNil E
 hT:PartOk E/\PartNil E
 hA:AtoiOk E
variable {E:Env}(C:Conds E){lim:Nat}{h:Hp}
include C
theorem aft_agr {W X:Hp}{s:SD}{t:ByteArray}{lo hi:Nat}{Z:Option ZN}(A:Asks E W s t lo hi Z)(hX:Agr W X){u:Int}(hu:i64r u):aftV E X s Z u=aftV E W s Z u :=
 aft_same C.hE C.hQ C.hO C.hS C.hN A (A.agr hX) (fun b hb=>by
  cases Z with
  | none=>cases hb
  | some Y=>exact eqAgr hX ((A.shut Y rfl).lt hb)) hu.1 hu.2
theorem c119 (k:KN)(x:TK)(hx:x.Ok)(hk:k.Ok)(A:x.Asked E h k.z) :
  evI E lim (.func 119) [.agg #[.int .u8 x.kind,.int .i64 x.span,.string x.text],.agg x.spec.cv.toArray,zv k.z,.agg #[.int .i64 k.st,.int .i64 k.ac,.int .i64 k.up,.int .i64 k.dn,.int .i64 x.base,.int .i64 x.spent]] h =
   some (match dueK E h k x with | none=>.tuple #[.agg #[.bool false,.int .i64 0],.bool false] | some (r,n)=>.tuple #[.agg #[.bool r,.int .i64 n],.bool true],h):=by
 have hE:=C.hE
 by_cases h1:x.kind=1
 ·obtain⟨lo,hi,A⟩:=A h1
  have e:=c119_cal hE (lim:=lim) (h:=h) (s:=x.spec) (z:=zv k.z) (base:=x.base) (n:=oi (aftV E h x.spec k.z x.base)) (ok:=(aftV E h x.spec k.z x.base).isSome) x.span k.st k.ac k.up k.dn x.spent x.text fun l=>by
   have q:=(c21_is hE C.hQ C.hO C.hS C.hN (A.agr (Agr.app h l)) hx.base.1 hx.base.2).1 h.length;rw[aft_agr C A (Agr.app h l) hx.base] at q;exact q
  simp only[PD.val] at e;unfold dueK;rw[if_pos h1,h1];refine Eq.trans e ?_;cases aftV E h x.spec k.z x.base<;>rfl
 ·have e:=c119_mono hE (lim:=lim) (h:=h) (s:=x.spec) (z:=zv k.z) (base:=x.base) (sp:=x.spent) x.text h1 hk.st hk.ac hk.up hk.dn hx.span;simp only[PD.val] at e;unfold dueK;rw[if_neg h1];refine Eq.trans e ?_;cases dueF x.kind x.span k.st k.ac k.up k.dn x.spent<;>rfl
omit C in
theorem dueK_rg {k:KN} {x:TK} (C:Conds E) (hx:x.Ok) (A:x.Asked E h k.z) {r:Bool} {n:Int} (e:dueK E h k x=some (r,n)):0<=n/\n<=9223372036854775807/\r=decide (x.kind=1):=by
 unfold dueK at e
 by_cases h1:x.kind=1
 ·rw[if_pos h1] at e;obtain⟨lo,hi,A⟩:=A h1;have q:=(c21_is C.hE C.hQ C.hO C.hS C.hN A hx.base.1 hx.base.2).2;cases ha:aftV E h x.spec k.z x.base with
  | none=>rw[ha] at e; cases e
  | some n' =>
   rw[ha] at e;cases e;have:=q n ha;exact⟨by omega,by omega,by simp[h1]⟩
 ·rw[if_neg h1] at e;cases ha:dueF x.kind x.span k.st k.ac k.up k.dn x.spent with
  | none=>rw[ha] at e; cases e
  | some n' =>
   rw[ha] at e;cases e;have:=dueF_gt ha;exact⟨this.2.1,this.2.2.1,by simp[h1]⟩
end
section
open Tb
theorem chunk_len {α:Type}{f:α->List Value}{k:Nat}(hf:∀x,(f x).length=k)(l:List α):(l.flatMap f).length=l.length*k:=by
 induction l with
 | nil=>simp
 | cons x l ih=>rw[List.flatMap_cons,List.length_append,ih,hf,List.length_cons,Nat.add_mul,Nat.one_mul,Nat.add_comm]
theorem chunk_get {α:Type}{f:α->List Value}{k:Nat}(hf:∀x,(f x).length=k):∀(l:List α) (j:Nat) (x:α),l[j]?=some x->((l.flatMap f).drop (j*k)).take k=f x
 | y::l,0,x,h=>by
  cases h;rw[List.flatMap_cons,Nat.zero_mul,List.drop_zero,List.take_append_of_le_length (by rw[hf]; omega),<- hf y,List.take_length]
 | y::l,j+1,x,h=>by
  rw[List.flatMap_cons,Nat.add_mul,Nat.one_mul,Nat.add_comm,<- List.drop_drop,List.drop_append_of_le_length (by rw[hf]; omega),<- hf y,List.drop_length,List.nil_append,hf y];exact chunk_get hf l j x h
theorem chunk_set {α:Type}{f:α->List Value}{k:Nat}(hf:∀x,(f x).length=k):∀(l:List α) (j:Nat) (x y:α) (r:Nat) (v:Value),l[j]?=some x->r<k->(f x).set r v=f y->(l.flatMap f).set (j*k+r) v=(l.set j y).flatMap f
 | z::l,0,x,y,r,v,h,hr,hs=>by
  cases h;rw[Nat.zero_mul,Nat.zero_add,List.flatMap_cons,List.set_append_left _ _ (by rw[hf]; exact hr),hs];rfl
 | z::l,j+1,x,y,r,v,h,hr,hs=>by
  have:=chunk_set hf l j x y r v h hr hs;rw[List.flatMap_cons,List.set_append_right _ _ (by rw[hf,Nat.add_mul]; omega),hf,show(j+1)*k+r-k=j*k+r by rw[Nat.add_mul]; omega,this];rfl
def tks (xs:List TK):List Value:=xs.flatMap TK.cs
theorem TK.cs_len (x:TK):x.cs.length=14:=rfl
theorem tks_len (xs:List TK):(tks xs).length=xs.length*14:=chunk_len TK.cs_len xs
def fd (p:Int×Int):List Value:=[.int .u8 p.1,.int .i64 p.2]
def fds (l:List (Int×Int)):List Value:=l.flatMap fd
theorem fds_len (l:List (Int×Int)):(fds l).length=l.length*2:=chunk_len (f:=fd) (k:=2) (fun _=>rfl) l
theorem fds_app (l m:List (Int×Int)):fds l++fds m=fds (l++m):=by simp[fds]
theorem fds_single (l:List (Int×Int)):(fds l).all single=true:=by
 induction l with
 | nil=>rfl
 | cons p l ih=>simp only[fds,List.flatMap_cons,List.all_append,Bool.and_eq_true] at ih ⊢; exact⟨rfl,ih⟩
def rv (b:Option Nat)(n k:Nat):Value:=match b with
 | none=>.slice none 0 0
 | some b=>.slice (some ⟨b,0,none⟩) n k
structure TM where
 k:KN
 rnd:Int
 per:Bool
 oc:Bool
 oz:Bool
 un:ByteArray
 act:Bool
 b0:Int
 s0:Int
 rb:Option Nat
 xs:List TK
 wb:Option Nat
 ws:List (Int×Int)
def TM.cs (t:TM):List Value:=[.slice none 0 0,.int .i64 t.k.acc,.int .i64 t.rnd,.bool t.per,.bool t.oc,.bool t.oz,.string t.un,.int .i64 t.k.late,rv t.rb t.xs.length 14,.bool t.act,.int .i64 t.k.st,.int .i64 t.k.ac,.int .i64 t.k.up,.int .i64 t.k.dn,.int .i64 t.b0,.int .i64 t.s0,zv t.k.z,rv t.wb t.ws.length 2]
structure Ctx (H0:Hp)(F:Nat->Prop)(h:Hp):Prop where
 R:∀j,F j->h[j]?=H0[j]?
 L:∀j,F j->j<h.length
theorem Ctx.app {H0:Hp}{F:Nat->Prop}{h:Hp}(H:Ctx H0 F h)(l:Hp):Ctx H0 F (h++l):=⟨fun j hj=>by rw[get_lt (H.L j hj)]; exact H.R j hj,fun j hj=>by have:=H.L j hj; simp; omega⟩
theorem Ctx.set {H0:Hp}{F:Nat->Prop}{h:Hp}(H:Ctx H0 F h){b:Nat}(hb:¬ F b)(x:Blk):Ctx H0 F (h.set b x):=⟨fun j hj=>by
 have:b≠j:=fun e=>by subst e; exact hb hj
 rw[set_ne this]; exact H.R j hj,fun j hj=>by have:=H.L j hj; simpa using this⟩
theorem Ctx.of {H0:Hp}{F:Nat->Prop}{h X:Hp}(H:Ctx H0 F h)(hX:∀j,F j->X[j]?=h[j]?):Ctx H0 F X:=⟨fun j hj=>(hX j hj).trans (H.R j hj),fun j hj=>by
 have e:=hX j hj;rw[List.getElem?_eq_getElem (H.L j hj)] at e;exact lt_of_get e⟩
def AskF (E:Env)(H0:Hp)(F:Nat->Prop)(z:Option ZN)(x:TK):Prop:=x.kind=1->∃lo hi,Asks E H0 x.spec x.text lo hi z/\(∀j,lo<=j->j<hi->F j)/\(∀i,i<6->∀A,(x.spec.at i).a=some A->F A.block)/\(∀b,zmem z b->F b)
theorem Asks.of {E:Env}{W X:Hp}{s:SD}{t:ByteArray}{lo hi:Nat}{Z:Option ZN}{F:Nat->Prop}(A:Asks E W s t lo hi Z)(h1:∀j,lo<=j->j<hi->F j)(h2:∀i,i<6->∀A,(s.at i).a=some A->F A.block)(h3:∀b,zmem Z b->F b)(hX:∀j,F j->X[j]?=W[j]?):Asks E X s t lo hi Z:=by
 have sl:∀ {k:Nat} {a:Option Addr} {n e:Nat} {ev:Nat->List Value},(∀A,a=some A->F A.block)->SlW k W a n e ev->SlW k X a n e ev:=fun hf H=>by
  rcases H with H | ⟨b,o,own,cs,rfl,e2,e3,e4⟩
  ·exact .inl H
  ·exact .inr ⟨b,o,own,cs,rfl,e2,(hX b (hf _ rfl)).trans e3,e4⟩
 have pi:∀i,i<6->(s.at i).In W->(s.at i).In X:=fun i hi hp=>⟨sl (h2 i hi) hp.1,hp.2⟩;refine⟨A.made.of fun j j1 j2=>hX j (h1 j j1 j2),⟨pi 0 (by omega) A.inn.yr,pi 1 (by omega) A.inn.mo,pi 2 (by omega) A.inn.dy,pi 3 (by omega) A.inn.hr,pi 4 (by omega) A.inn.mi,pi 5 (by omega) A.inn.se⟩,A.bd,fun Y hY=>?_,A.shut.agr fun b hb=>hX b (h3 b hb),A.out⟩;subst hY;obtain⟨⟨own,e1⟩,e2,e3,e4,e5,e6,e7,e8⟩:=A.zin Y rfl
 exact⟨⟨own,(hX _ (h3 _ (.inl rfl))).trans e1⟩,⟨sl (fun A hA=>h3 _ (.inr (.inr ⟨A,.inl hA,rfl⟩))) e2.tw,sl (fun A hA=>h3 _ (.inr (.inr ⟨A,.inr (.inl hA),rfl⟩))) e2.mw,sl (fun A hA=>h3 _ (.inr (.inr ⟨A,.inr (.inr hA),rfl⟩))) e2.xw,e2.small⟩,
  fun R hR=>let⟨⟨o,q⟩,q2⟩:=e3 R hR; ⟨⟨o,(hX _ (h3 _ (.inr (.inl ⟨R,hR,rfl⟩)))).trans q⟩,q2⟩,e4,e5,e6,e7,e8⟩
theorem AskF.at {E:Env}{H0 h:Hp}{F:Nat->Prop}{z:Option ZN}{x:TK}(A:AskF E H0 F z x)(c:Ctx H0 F h):x.Asked E h z:=fun h1=>by
 obtain⟨lo,hi,A,a1,a2,a3⟩:=A h1;exact⟨lo,hi,A.of a1 a2 a3 c.R⟩
variable {E:Env}(C:Conds E){lim:Nat}{h H0:Hp}{F:Nat->Prop}
include C
theorem dueK_at {k:KN}{x:TK}(hx:x.Ok)(A:AskF E H0 F k.z x)(c:Ctx H0 F h):dueK E h k x=dueK E H0 k x:=by
 unfold dueK
 by_cases h1:x.kind=1
 ·obtain⟨lo,hi,A,a1,a2,a3⟩:=A h1;rw[if_pos h1,if_pos h1,aft_same C.hE C.hQ C.hO C.hS C.hN A (A.of a1 a2 a3 c.R) (fun b hb=>c.R b (a3 b hb)) hx.base.1 hx.base.2]
 ·rw[if_neg h1,if_neg h1]
theorem c66 {t:TM}{tb:Nat}(hb:h[tb]?=some (.cells true t.cs))(hk:t.k.Ok){x:TK}(hx:x.Ok)(A:AskF E H0 F t.k.z x)(c:Ctx H0 F h) :
  evI E lim (.func 66) [.pointer (some ⟨tb,0,none⟩),.agg x.cs.toArray] h=some (winR t.k.late t.k.acc (dueK E H0 t.k x),h):=by
 have hE:=C.hE;have q:=fun l=>c119 C (lim:=h.length) (h:=h++l) t.k x hx hk (A.at (c.app l));have q':∀l,dueK E (h++l) t.k x=dueK E H0 t.k x:=fun l=>dueK_at C hx A (c.app l);simp only[q'] at q;cases hd:dueK E H0 t.k x with
 | none =>
  rw[hd] at q;simp only[SD.cv] at q;have hb':∀l,(h++l)[tb]?=some (.cells true t.cs):=fun l=>get_old hb;simp only[TM.cs] at hb';rw[hE.fn T66]; simp only[push_cast,ac66,TK.cs,hb',q,sureL,winR,simprocAttr]
 | some p =>
  obtain⟨r,n⟩:=p;have rg:=dueK_rg (h:=h) C hx (A.at c) (r:=r) (n:=n) (by rw[dueK_at C hx A c]; exact hd);rw[hd] at q;simp only[SD.cv] at q;have hb':∀l,(h++l)[tb]?=some (.cells true t.cs):=fun l=>get_old hb;simp only[TM.cs] at hb';have e120:=fun l=>c120 hE (lim:=h.length) (h:=h++l) n t.k.late t.k.acc (by omega) (by omega) hk.late.1 hk.late.2 hk.acc.1 hk.acc.2;rw[hE.fn T66]; simp only[push_cast,ac66,TK.cs,hb',q,sureL,winR,e120,simprocAttr]
theorem c35 {t:TM}{tb:Nat}(hb:h[tb]?=some (.cells true t.cs)):evI E lim (.func 35) [.pointer (some ⟨tb,0,none⟩)] h=some (.bool t.act,h):=by
 have hE:=C.hE;simp only[TM.cs] at hb;rw[hE.fn T35]; simp only[push_cast,ac35,hb,simprocAttr]
end
section
open Tb
theorem lt_of_getL {α:Type}{l:List α}{i:Nat}{x:α}(h:l[i]?=some x):i<l.length:=(List.getElem?_eq_some_iff.1 h).1
def FRow (X:Hp)(lo:Nat)(b:Option Nat)(l:List (Int×Int)):Prop:=match b with
 | none=>l=[]
 | some b=>lo<=b/\X[b]?=some (.cells true (fds l))
structure TM.In (t:TM)(tb:Nat)(h:Hp):Prop where
 blk:h[tb]?=some (.cells true t.cs)
 row:match t.rb with
  | none=>t.xs=[]
  | some b=>b≠tb/\h[b]?=some (.cells true (tks t.xs))
 wai:match t.wb with
  | none=>t.ws=[]
  | some b=>b≠tb/\t.rb≠some b/\h[b]?=some (.cells true (fds t.ws))
 n:t.xs.length<=1000
 m:t.ws.length<=1000
noncomputable def elap (E:Env)(H0:Hp)(k:KN)(real mono:Int)(x:TK):Option Int:=match dueK E H0 k x with
 | none=>none
 | some (r,n)=>if aroundF n k.late k.acc=true/\n+k.late<=(if r=true then real else mono) then some n else none
noncomputable def fireX (E:Env)(H0:Hp)(k:KN)(real mono:Int)(x:TK):TK:=match dueK E H0 k x with
 | none=>x
 | some (r,n)=>if aroundF n k.late k.acc=true/\n+k.late<=(if r=true then real else mono) then(if r=true then { x with base:=IntKind.i64.wrap (real-k.late) } else { x with spent:=n }) else x
def updN (u:TK->TK)(i:Nat)(xs:List TK):List TK:=(xs.take i).map u++xs.drop i
theorem updN_len (u:TK->TK)(i:Nat)(xs:List TK):(updN u i xs).length=xs.length:=by simp[updN]; omega
theorem updN_get {u:TK->TK}{i:Nat}{xs:List TK}{x:TK}(h:xs[i]?=some x):(updN u i xs)[i]?=some x:=by
 have:=lt_of_getL h;unfold updN;rw[List.getElem?_append_right (by simp; omega)];simp[List.getElem?_drop];rw[show i+(i-min i xs.length)=i by omega];exact h
theorem updN_set {u:TK->TK}{i:Nat}{xs:List TK}{x:TK}(h:xs[i]?=some x):(updN u i xs).set i (u x)=updN u (i+1) xs:=by
 have hl:=lt_of_getL h;obtain⟨_,hx⟩:=List.getElem?_eq_some_iff.1 h;apply List.ext_getElem?;intro j;unfold updN;rw[List.getElem?_set]
 by_cases e:i=j
 ·subst e;rw[if_pos rfl,if_pos (by simp; omega),List.getElem?_append_left (by simp; omega)];simp[List.getElem?_take,h]
 ·rw[if_neg e]
  by_cases h1:j<i
  ·rw[List.getElem?_append_left (by simp; omega),List.getElem?_append_left (by simp; omega)];simp[List.getElem?_take,h1,show j<i+1 by omega]
  ·rw[List.getElem?_append_right (by simp; omega),List.getElem?_append_right (by simp; omega),List.getElem?_drop,List.getElem?_drop]
   congr 1
   simp;omega
theorem updN_0 (u:TK->TK)(xs:List TK):updN u 0 xs=xs:=rfl
theorem updN_all (u:TK->TK)(xs:List TK):updN u xs.length xs=xs.map u:=by simp[updN]
theorem updN_same {u:TK->TK}{i:Nat}{xs:List TK}{x:TK}(h:xs[i]?=some x)(hu:u x=x):updN u (i+1) xs=updN u i xs:=by
 rw[<- updN_set h,hu];have:=updN_get (u:=u) h;obtain⟨h1,h2⟩:=List.getElem?_eq_some_iff.1 this;rw[<- h2]; simp
theorem FRow.grow {X:Hp}{lo:Nat}{b:Option Nat}{l:List (Int×Int)}(H:FRow X lo b l)(Y:Hp):FRow (X++Y) lo b l:=by
 cases b with
 | none=>exact H
 | some b=>exact⟨H.1,get_old H.2⟩
variable {E:Env}(C:Conds E){lim:Nat}{h H0:Hp}{F:Nat->Prop}
include C
theorem loop22 {t:TM}{tb rb:Nat}(hrb:t.rb=some rb)(hne:rb≠tb)(hk:t.k.Ok)(hx:∀x∈t.xs,x.Ok/\AskF E H0 F t.k.z x)(hn:t.xs.length<=1000)(Fb:¬ F rb){real mono:Int}{n0:Nat}(htb:tb<n0)(hrl:rb<n0){v4:Value}{X0:Hp}(c0:Ctx H0 F X0)(hF:∀j,F j->j<n0)(b0:X0[tb]?=some (.cells true t.cs))(r0:X0[rb]?=some (.cells true (tks t.xs)))(w0:X0[n0]?=some (.cells true [.int .i64 real,.int .i64 mono]))(l0:n0+2<=X0.length)
  {f:Fr}(f0:f.rd 0=.pointer (some ⟨tb,0,none⟩))(f3:f.rd 3=.pointer (some ⟨n0,0,none⟩))(f4:f.rd 4=v4)(f6:f.rd 6=.slice none 0 0)(f20:f.rd 20=.slice (some ⟨rb,0,none⟩) t.xs.length 14)(f21:f.rd 21=.int .i64 t.xs.length)(f22:f.rd 22=.int .i64 0){P:AX->Fr->Hp->Prop}
  (hP:∀f' X fb,(∀j,j<n0+2->j≠rb->X[j]?=X0[j]?)->n0+2<=X.length->X[rb]?=some (.cells true (tks (t.xs.map (fireX E H0 t.k real mono))))->FRow X (n0+2) fb (t.xs.filterMap fun x=>(elap E H0 t.k real mono x).map fun n=>(x.kind,n)) ->
   f'.rd 0=.pointer (some ⟨tb,0,none⟩)->f'.rd 4=v4->f'.rd 6=rv fb (t.xs.filterMap fun x=>(elap E H0 t.k real mono x).map fun n=>(x.kind,n)).length 2->P (.exit 0) f' X):Post (evK E n0 (.loop lp22_0) f X0) P:=by
 have hE:=C.hE
 refine loop_post hE.mono (fun q g X=>∃(i:Nat) (fb:Option Nat),i<=t.xs.length/\(∀j,j<n0+2->j≠rb->X[j]?=X0[j]?)/\n0+2<=X.length/\X[rb]?=some (.cells true (tks (updN (fireX E H0 t.k real mono) i t.xs)))/\FRow X (n0+2) fb ((t.xs.take i).filterMap fun x=>(elap E H0 t.k real mono x).map fun n=>(x.kind,n)) /\
  g.rd 0=.pointer (some ⟨tb,0,none⟩)/\g.rd 3=.pointer (some ⟨n0,0,none⟩)/\g.rd 4=v4/\g.rd 6=rv fb ((t.xs.take i).filterMap fun x=>(elap E H0 t.k real mono x).map fun n=>(x.kind,n)).length 2/\g.rd 20=.slice (some ⟨rb,0,none⟩) t.xs.length 14/\g.rd 21=.int .i64 t.xs.length/\g.rd 22=.int .i64 i/\t.xs.length-i=q) ?_ t.xs.length _ _ ⟨0,none,Nat.zero_le _,fun _ _ _=>rfl,l0,r0,rfl,f0,f3,f4,f6,f20,f21,f22,rfl⟩
 clear f0 f3 f4 f6 f20 f21 f22 r0;rintro q g X ⟨i,fb,hi,xo,xl,xr,xf,g0,g3,g4,g6,g20,g21,g22,hq⟩
 by_cases hlt:(i:Int)<t.xs.length
 ·have hi':i<t.xs.length:=by omega
  obtain⟨x,hxi⟩:∃x,t.xs[i]?=some x:=⟨_,List.getElem?_eq_getElem hi'⟩;have hmem:x∈t.xs:=List.mem_of_getElem? hxi;obtain⟨xok,xask⟩:=hx x hmem;have ul:=updN_len (fireX E H0 t.k real mono) i t.xs;have uget:=updN_get (u:=fireX E H0 t.k real mono) hxi;have a3:((tks (updN (fireX E H0 t.k real mono) i t.xs)).drop (i*14)).take 14=x.cs:=chunk_get TK.cs_len _ _ _ uget;have a4:(i*14+14<=(tks (updN (fireX E H0 t.k real mono) i t.xs)).length)=True:=eq_true (by rw[tks_len,ul]; omega);have a2:(0<=(i:Int))=True:=by simp
  have a5:(i<t.xs.length)=True:=eq_true hi';have a8:=wn1 (i:=i);have xb:=(xo tb (by omega) (Ne.symm hne)).trans b0;have xw:=(xo n0 (by omega) (by omega)).trans w0;have cX:Ctx H0 F X:=c0.of fun j hj=>xo j (by have:=hF j hj; omega) (fun e=>Fb (e▸hj));have e66:=c66 C (lim:=n0) (h:=X++[.cells true x.cs]) (t:=t) (tb:=tb) (get_old xb) hk xok xask (cX.app _);have x6:∀q:Prop,(n0<=X.length\/q)=True:=fun q=>by simp; omega
  have lr:=lt_of_get xr;have y1:∀l,(X++l)[tb]?=some (.cells true t.cs):=fun l=>get_old xb;have y2:∀l,(X++l)[n0]?=some (.cells true [.int .i64 real,.int .i64 mono]):=fun l=>get_old xw;have y3:∀l,(X++l)[rb]?=some (.cells true (tks (updN (fireX E H0 t.k real mono) i t.xs))):=fun l=>get_old xr
  have t_len:∀p,((t.xs.take (i+1)).filterMap p:List (Int×Int))=(t.xs.take i).filterMap p++(match p x with | some y=>[y] | none=>[]):=fun p=>by
   rw[List.take_add_one,hxi,List.filterMap_append];simp only[Option.toList]
   congr 1
   simp only[List.filterMap_cons,List.filterMap_nil];split<;>simp_all
  generalize hys:updN (fireX E H0 t.k real mono) i t.xs=ys at *
  have nofire:elap E H0 t.k real mono x=none->fireX E H0 t.k real mono x=x->updN (fireX E H0 t.k real mono) (i+1) t.xs=ys/\((t.xs.take (i+1)).filterMap fun x=>(elap E H0 t.k real mono x).map fun n=>(x.kind,n))=((t.xs.take i).filterMap fun x=>(elap E H0 t.k real mono x).map fun n=>(x.kind,n)):=by
   intro h1 h2;refine⟨by rw[updN_same hxi h2,hys],?_⟩;rw[t_len,h1];exact List.append_nil _
  simp only[TK.cs] at a3 e66;simp only[TM.cs,hrb,rv] at y1 xb;cases hd:dueK E H0 t.k x with
  | none =>
   rw[hd] at e66;simp only[winR] at e66;obtain⟨E1,E2⟩:=nofire (by unfold elap; rw[hd]) (by unfold fireX; rw[hd]);simp only[push_cast,lp22_0,g0,g3,g4,g6,g20,g21,g22,hlt,a2,a3,a4,a5,a8,xr,x6,e66,y1,y2,y3,simprocAttr];exact⟨_,(by omega:t.xs.length-(i+1)<q),i+1,fb,by omega,fun j j1 j2=>by rw[get_lt (by omega)]; exact xo j j1 j2,by omega,by rw[E1],by rw[E2]; exact xf.grow _,by rw[E2],rfl,rfl⟩
  | some p =>
   obtain⟨r,n⟩:=p;rw[hd] at e66;cases r with
   | true =>
    cases ha:aroundF n t.k.late t.k.acc with
    | false =>
     obtain⟨E1,E2⟩:=nofire (by unfold elap; rw[hd]; simp[ha]) (by unfold fireX; rw[hd]; simp[ha]);simp only[winR,ha,Bool.false_eq_true,if_false] at e66;simp only[push_cast,lp22_0,g0,g3,g4,g6,g20,g21,g22,hlt,a2,a3,a4,a5,a8,xr,x6,e66,y1,y2,y3,simprocAttr];exact⟨_,(by omega:t.xs.length-(i+1)<q),i+1,fb,by omega,fun j j1 j2=>by rw[get_lt (by omega)]; exact xo j j1 j2,by omega,by rw[E1],by rw[E2]; exact xf.grow _,by rw[E2],rfl,rfl⟩
    | true =>
     by_cases hgt:n+t.k.late>real
     ·obtain⟨E1,E2⟩:=nofire (by unfold elap; rw[hd]; simp[ha]; omega) (by unfold fireX; rw[hd]; simp[ha]; omega);simp only[winR,ha,if_true] at e66;simp only[push_cast,lp22_0,g0,g3,g4,g6,g20,g21,g22,hlt,a2,a3,a4,a5,a8,xr,x6,e66,y1,y2,y3,hgt,simprocAttr];exact⟨_,(by omega:t.xs.length-(i+1)<q),i+1,fb,by omega,fun j j1 j2=>by rw[get_lt (by omega)]; exact xo j j1 j2,by omega,by rw[E1],by rw[E2]; exact xf.grow _,by rw[E2],rfl,rfl⟩
     ·have hle:n+t.k.late<=real:=by omega
      have E3:fireX E H0 t.k real mono x={ x with base:=IntKind.i64.wrap (real-t.k.late) }:=by unfold fireX; rw[hd]; simp[ha,hle]
      have E4:elap E H0 t.k real mono x=some n:=by unfold elap; rw[hd]; simp[ha,hle]
      have E1:(tks ys).set (i*14+12) (.int .i64 (IntKind.i64.wrap (real-t.k.late)))=tks (updN (fireX E H0 t.k real mono) (i+1) t.xs):=by
       rw[<- updN_set hxi,hys,E3];exact chunk_set TK.cs_len ys i x _ 12 _ uget (by omega) rfl
      have E2:((t.xs.take (i+1)).filterMap fun x=>(elap E H0 t.k real mono x).map fun n=>(x.kind,n))=((t.xs.take i).filterMap fun x=>(elap E H0 t.k real mono x).map fun n=>(x.kind,n))++[(x.kind,n)]:=by
       rw[t_len,E4]; rfl
      have a9:(i*14+12+1<=(tks ys).length)=True:=eq_true (by rw[tks_len,ul]; omega);simp only[winR,ha,if_true] at e66;cases fb with
      | none =>
       have xf':((t.xs.take i).filterMap fun x=>(elap E H0 t.k real mono x).map fun n=>(x.kind,n))=[]:=xf;simp only[rv] at g6;have k2:∀l y,(X++l).set rb y=X.set rb y++l:=fun l y=>set_old lr;simp only[push_cast,lp22_0,g0,g3,g4,g6,g20,g21,g22,hlt,a2,a3,a4,a5,a8,xr,x6,e66,y1,y2,y3,hgt,srcOf,k2,a9,E1,simprocAttr];refine⟨_,(by omega:t.xs.length-(i+1)<q),i+1,some (X.length+4),by omega,fun j j1 j2=>by rw[get_lt (by simp; omega),set_ne (by omega)]; exact xo j j1 j2,by first | omega | (simp; omega),?_,⟨by omega,?_⟩,?_,rfl,rfl⟩
       ·exact get_old (set_get lr)
       ·rw[get_appC (n:=X.length) (k:=4) (by simp),E2,xf']; rfl
       ·rw[E2,xf']; rfl
      | some b =>
       obtain⟨xf1,xf2⟩:=xf;have lb:=lt_of_get xf2;have hfl:((t.xs.take i).filterMap fun x=>(elap E H0 t.k real mono x).map fun n=>(x.kind,n)).length<=1000:=Nat.le_trans (List.length_filterMap_le _ _) (by simp; omega);generalize hfr:((t.xs.take i).filterMap fun x=>(elap E H0 t.k real mono x).map fun n=>(x.kind,n))=fr at *;simp only[rv] at g6;have k1:∀l,(X++l)[b]?=some (.cells true (fds fr)):=fun l=>get_old xf2;have k2:∀l y,(X++l).set b y=X.set b y++l:=fun l y=>set_old lb;have k3:∀y l,(X.set b y++l)[tb]?=X[tb]?:=fun y l=>by rw[get_lt (by simp; omega),set_ne (by omega)]
       have k4:∀y l,(X.set b y++l)[rb]?=X[rb]?:=fun y l=>by rw[get_lt (by simp; omega),set_ne (by omega)]
       have k5:∀y l,(X.set b y++l)[n0]?=X[n0]?:=fun y l=>by rw[get_lt (by simp; omega),set_ne (by omega)]
       have k6:∀y l z,(X.set b y++l).set rb z=(X.set b y).set rb z++l:=fun y l z=>set_old (by simpa using lr);have k7:∀(y:Blk) (l:Hp) (k:Nat),(X.set b y++l)[X.length+k]?=l[k]?:=fun y l k=>get_appC (by simp);have k8:∀(y:Blk) (l:Hp),(X.set b y++l)[X.length]?=l[0]?:=fun y l=>get_appC0 (by simp);have k9:(fr.length*2=(fds fr).length)=True:=eq_true (fds_len fr).symm;have k10:((fr.length+1)*16<=140737488355328)=True:=eq_true (by omega);simp only[push_cast,lp22_0,g0,g3,g4,g6,g20,g21,g22,hlt,a2,a3,a4,a5,a8,xr,x6,e66,y1,y2,y3,hgt,srcOf,k1,k2,k3,k4,k5,k6,k7,k8,k9,k10,xb,xw,a9,E1,simprocAttr];refine⟨_,(by omega:t.xs.length-(i+1)<q),i+1,some (X.length+4),by omega,fun j j1 j2=>by rw[get_lt (by simp; omega),set_ne (by omega),set_ne (by omega)]; exact xo j j1 j2,by first | omega | (simp; omega),?_,⟨by omega,?_⟩,?_,rfl,rfl⟩
       ·exact get_old (set_get (by simpa using lr))
       ·rw[get_appC (n:=X.length) (k:=4) (by simp),E2]; simp[fds,fd]
       ·rw[E2]; simp[rv]
   | false =>
    cases ha:aroundF n t.k.late t.k.acc with
    | false =>
     obtain⟨E1,E2⟩:=nofire (by unfold elap; rw[hd]; simp[ha]) (by unfold fireX; rw[hd]; simp[ha]);simp only[winR,ha,Bool.false_eq_true,if_false] at e66;simp only[push_cast,lp22_0,g0,g3,g4,g6,g20,g21,g22,hlt,a2,a3,a4,a5,a8,xr,x6,e66,y1,y2,y3,simprocAttr];exact⟨_,(by omega:t.xs.length-(i+1)<q),i+1,fb,by omega,fun j j1 j2=>by rw[get_lt (by omega)]; exact xo j j1 j2,by omega,by rw[E1],by rw[E2]; exact xf.grow _,by rw[E2],rfl,rfl⟩
    | true =>
     by_cases hgt:n+t.k.late>mono
     ·obtain⟨E1,E2⟩:=nofire (by unfold elap; rw[hd]; simp[ha]; omega) (by unfold fireX; rw[hd]; simp[ha]; omega);simp only[winR,ha,if_true] at e66;simp only[push_cast,lp22_0,g0,g3,g4,g6,g20,g21,g22,hlt,a2,a3,a4,a5,a8,xr,x6,e66,y1,y2,y3,hgt,simprocAttr];exact⟨_,(by omega:t.xs.length-(i+1)<q),i+1,fb,by omega,fun j j1 j2=>by rw[get_lt (by omega)]; exact xo j j1 j2,by omega,by rw[E1],by rw[E2]; exact xf.grow _,by rw[E2],rfl,rfl⟩
     ·have hle:n+t.k.late<=mono:=by omega
      have E3:fireX E H0 t.k real mono x={ x with spent:=n }:=by unfold fireX; rw[hd]; simp[ha,hle]
      have E4:elap E H0 t.k real mono x=some n:=by unfold elap; rw[hd]; simp[ha,hle]
      have E1:(tks ys).set (i*14+13) (.int .i64 n)=tks (updN (fireX E H0 t.k real mono) (i+1) t.xs):=by
       rw[<- updN_set hxi,hys,E3];exact chunk_set TK.cs_len ys i x _ 13 _ uget (by omega) rfl
      have E2:((t.xs.take (i+1)).filterMap fun x=>(elap E H0 t.k real mono x).map fun n=>(x.kind,n))=((t.xs.take i).filterMap fun x=>(elap E H0 t.k real mono x).map fun n=>(x.kind,n))++[(x.kind,n)]:=by
       rw[t_len,E4]; rfl
      have a9:(i*14+13+1<=(tks ys).length)=True:=eq_true (by rw[tks_len,ul]; omega);simp only[winR,ha,if_true] at e66;cases fb with
      | none =>
       have xf':((t.xs.take i).filterMap fun x=>(elap E H0 t.k real mono x).map fun n=>(x.kind,n))=[]:=xf;simp only[rv] at g6;have k2:∀l y,(X++l).set rb y=X.set rb y++l:=fun l y=>set_old lr;simp only[push_cast,lp22_0,g0,g3,g4,g6,g20,g21,g22,hlt,a2,a3,a4,a5,a8,xr,x6,e66,y1,y2,y3,hgt,srcOf,k2,a9,E1,simprocAttr];refine⟨_,(by omega:t.xs.length-(i+1)<q),i+1,some (X.length+4),by omega,fun j j1 j2=>by rw[get_lt (by simp; omega),set_ne (by omega)]; exact xo j j1 j2,by first | omega | (simp; omega),?_,⟨by omega,?_⟩,?_,rfl,rfl⟩
       ·exact get_old (set_get lr)
       ·rw[get_appC (n:=X.length) (k:=4) (by simp),E2,xf']; rfl
       ·rw[E2,xf']; rfl
      | some b =>
       obtain⟨xf1,xf2⟩:=xf;have lb:=lt_of_get xf2;have hfl:((t.xs.take i).filterMap fun x=>(elap E H0 t.k real mono x).map fun n=>(x.kind,n)).length<=1000:=Nat.le_trans (List.length_filterMap_le _ _) (by simp; omega);generalize hfr:((t.xs.take i).filterMap fun x=>(elap E H0 t.k real mono x).map fun n=>(x.kind,n))=fr at *;simp only[rv] at g6;have k1:∀l,(X++l)[b]?=some (.cells true (fds fr)):=fun l=>get_old xf2;have k2:∀l y,(X++l).set b y=X.set b y++l:=fun l y=>set_old lb;have k3:∀y l,(X.set b y++l)[tb]?=X[tb]?:=fun y l=>by rw[get_lt (by simp; omega),set_ne (by omega)]
       have k4:∀y l,(X.set b y++l)[rb]?=X[rb]?:=fun y l=>by rw[get_lt (by simp; omega),set_ne (by omega)]
       have k5:∀y l,(X.set b y++l)[n0]?=X[n0]?:=fun y l=>by rw[get_lt (by simp; omega),set_ne (by omega)]
       have k6:∀y l z,(X.set b y++l).set rb z=(X.set b y).set rb z++l:=fun y l z=>set_old (by simpa using lr);have k7:∀(y:Blk) (l:Hp) (k:Nat),(X.set b y++l)[X.length+k]?=l[k]?:=fun y l k=>get_appC (by simp);have k8:∀(y:Blk) (l:Hp),(X.set b y++l)[X.length]?=l[0]?:=fun y l=>get_appC0 (by simp);have k9:(fr.length*2=(fds fr).length)=True:=eq_true (fds_len fr).symm;have k10:((fr.length+1)*16<=140737488355328)=True:=eq_true (by omega);simp only[push_cast,lp22_0,g0,g3,g4,g6,g20,g21,g22,hlt,a2,a3,a4,a5,a8,xr,x6,e66,y1,y2,y3,hgt,srcOf,k1,k2,k3,k4,k5,k6,k7,k8,k9,k10,xb,xw,a9,E1,simprocAttr];refine⟨_,(by omega:t.xs.length-(i+1)<q),i+1,some (X.length+4),by omega,fun j j1 j2=>by rw[get_lt (by simp; omega),set_ne (by omega),set_ne (by omega)]; exact xo j j1 j2,by first | omega | (simp; omega),?_,⟨by omega,?_⟩,?_,rfl,rfl⟩
       ·exact get_old (set_get (by simpa using lr))
       ·rw[get_appC (n:=X.length) (k:=4) (by simp),E2]; simp[fds,fd]
       ·rw[E2]; simp[rv]
 ·simp only[push_cast,lp22_0,g21,g22,hlt,simprocAttr];have:i=t.xs.length:=by omega
  subst this;rw[updN_all] at xr;rw[List.take_length] at xf g6;refine hP _ X fb xo xl xr xf ?_ ?_ ?_<;>first | assumption | simp only[push_cast,g0,g4,g6,simprocAttr]
end
section
open Tb
variable {E:Env}(C:Conds E){lim:Nat}{h H0:Hp}{F:Nat->Prop}
include C
def fireR:Option (Int×Int)->Value
 | none=>.tuple #[.agg #[.int .u8 0,.int .i64 0],.bool false]
 | some p=>.tuple #[.agg #[.int .u8 p.1,.int .i64 p.2],.bool true]
noncomputable def firedL (E:Env)(H0:Hp)(t:TM)(real mono:Int):List (Int×Int):=t.xs.filterMap fun x=>(elap E H0 t.k real mono x).map fun n=>(x.kind,n)
noncomputable def TM.fire (E:Env)(H0:Hp)(t:TM)(real mono:Int):TM:={ t with xs:=t.xs.map (fireX E H0 t.k real mono),wb:=none,ws:=[] }
def FQ (E:Env)(H0:Hp)(t:TM)(tb:Nat)(h:Hp)(real mono:Int)(l:List (Int×Int))(g:Fr)(X:Hp):Prop:=∃fb,(∀j,j<h.length->t.rb≠some j->X[j]?=h[j]?)/\X[h.length+1]?=some (.cells true [.int .u8 0,.int .i64 0])/\(match t.rb with | none=>True | some b=>X[b]?=some (.cells true (tks (t.xs.map (fireX E H0 t.k real mono)))))/\FRow X (h.length+2) fb l /\
 g.rd 0=.pointer (some ⟨tb,0,none⟩)/\g.rd 4=.pointer (some ⟨h.length+1,0,none⟩)/\g.rd 6=rv fb l.length 2
theorem c22_off {t:TM}{tb:Nat}(hb:h[tb]?=some (.cells true t.cs))(ha:t.act=false)(real mono:Int):evI E lim (.func 22) [.pointer (some ⟨tb,0,none⟩),.agg #[.int .i64 real,.int .i64 mono]] h=some (fireR none,h):=by
 have hE:=C.hE;have e35:=fun l=>c35 C (lim:=h.length) (h:=h++l) (t:=t) (get_old hb);rw[ha] at e35;rw[hE.fn T22]; simp only[push_cast,ac22,e35,fireR,simprocAttr]
theorem c22 {t:TM}{tb:Nat}(T:t.In tb h)(hk:t.k.Ok)(hx:∀x∈t.xs,x.Ok/\AskF E H0 F t.k.z x)(c:Ctx H0 F h)(Ft:¬ F tb)(Fr:∀b,t.rb=some b->¬ F b)(ha:t.act=true)(real mono:Int) :
  PostV (evI E lim (.func 22) [.pointer (some ⟨tb,0,none⟩),.agg #[.int .i64 real,.int .i64 mono]] h) fun v h'=>v=fireR (firedL E H0 t real mono++t.ws).head?/\h'.length=h.length/\(t.fire E H0 real mono).In tb h'/\∀j,j≠tb->t.rb≠some j->h'[j]?=h[j]?:=by
 have hE:=C.hE;have lb:=lt_of_get T.blk;have e35:=fun l=>c35 C (lim:=h.length) (h:=h++l) (t:=t) (get_old T.blk);rw[ha] at e35;refine post_fn hE T22 (Nat.le_of_ble_eq_true rfl) ?_;show Post (evK E h.length ac22 _ _) _;unfold ac22;refine post_mid hE.mono (fun g W=>h++[.cells true [.int .i64 real,.int .i64 mono],.cells true [.int .u8 0,.int .i64 0]]=W/\g.rd 0=.pointer (some ⟨tb,0,none⟩)/\g.rd 3=.pointer (some ⟨h.length,0,none⟩)/\g.rd 4=.pointer (some ⟨h.length+1,0,none⟩)) (by simp only[push_cast,simprocAttr]) ?_;rintro g W ⟨rfl,g0,g3,g4⟩;refine post_mid hE.mono (fun g W=>h++[.cells true [.int .i64 real,.int .i64 mono],.cells true [.int .u8 0,.int .i64 0]]=W/\g.rd 0=.pointer (some ⟨tb,0,none⟩)/\g.rd 3=.pointer (some ⟨h.length,0,none⟩)/\g.rd 4=.pointer (some ⟨h.length+1,0,none⟩)) (by simp only[push_cast,g0,g3,g4,e35,simprocAttr]) ?_;clear g0 g3 g4 g;rintro g W ⟨rfl,g0,g3,g4⟩;refine post_mid hE.mono (fun g W=>h++[.cells true [.int .i64 real,.int .i64 mono],.cells true [.int .u8 0,.int .i64 0]]=W/\g.rd 0=.pointer (some ⟨tb,0,none⟩)/\g.rd 3=.pointer (some ⟨h.length,0,none⟩)/\g.rd 4=.pointer (some ⟨h.length+1,0,none⟩)/\g.rd 6=.slice none 0 0) (by simp only[push_cast,g0,g3,g4,simprocAttr]) ?_;clear g0 g3 g4 g;rintro g W ⟨rfl,g0,g3,g4,g6⟩;refine post_mid hE.mono (FQ E H0 t tb h real mono (firedL E H0 t real mono)) ?_ ?_
 ·have T2:=T.row;have hb':∀l,(h++l)[tb]?=some (.cells true t.cs):=fun l=>get_old T.blk;cases hrb:t.rb with
  | none =>
   rw[hrb] at T2;simp only at T2;simp only[TM.cs,hrb,rv,T2] at hb';simp only[push_cast,g0,g3,g4,g6,hb',evK_loop' hE.mono,lp22_0,Int.lt_irrefl,simprocAttr];exact⟨none,fun j hj _=>get_lt hj,by rw[get_app]; rfl,by rw[hrb]; trivial,by show firedL E H0 t real mono=[]; unfold firedL; rw[T2]; rfl,by simp[g0],by simp[g4],by unfold firedL; rw[T2]; simp only[push_cast,g6,simprocAttr]; rfl⟩
  | some rb =>
   rw[hrb] at T2;simp only at T2;simp only[TM.cs,hrb,rv] at hb';simp only[push_cast,g0,g3,g4,g6,hb',simprocAttr];refine loop22 C hrb T2.1 hk hx T.n (Fr rb hrb) (real:=real) (mono:=mono) (n0:=h.length) lb (lt_of_get T2.2) (v4:=.pointer (some ⟨h.length+1,0,none⟩)) (c.app _) c.L (get_old T.blk) (get_old T2.2) get_app0 (by simp) (by simp[g0]) (by simp[g3]) (by simp[g4]) (by simp[g6]) (by simp) (by simp) (by simp) ?_;intro f X fb xo xl xr xf q0 q4 q6;simp only[push_cast,simprocAttr];exact⟨fb,fun j j1 j2=>by rw[xo j (by omega) (fun e=>j2 (by rw[hrb,e]))]; exact get_lt j1,by rw[xo _ (by omega) (by have:=lt_of_get T2.2; omega),get_app]; rfl,by rw[hrb]; exact xr,xf,q0,q4,q6⟩
 clear g0 g3 g4 g6 g;rintro g X ⟨fb,xo,x1,xr,xf,g0,g4,g6⟩;have T3:=T.wai
 have xb:X[tb]?=some (.cells true t.cs):=(xo tb lb (by
  have T2:=T.row;intro e;rw[e] at T2;exact T2.1 rfl)).trans T.blk
 have hxl:h.length+1<X.length:=lt_of_get x1;refine post_mid hE.mono (FQ E H0 t tb h real mono (firedL E H0 t real mono++t.ws)) ?_ ?_
 ·cases hwb:t.wb with
  | none =>
   rw[hwb] at T3;simp only at T3;simp only[TM.cs,hwb,rv] at xb;rw[T3,List.append_nil];cases fb with
   | none => 
    simp only[rv] at g6;simp only[push_cast,g0,g4,g6,xb,srcOf,simprocAttr];exact⟨none,xo,x1,xr,xf,by simp[g0],by simp[g4],by simp only[push_cast,simprocAttr]; rfl⟩
   | some b =>
    simp only[rv] at g6;simp only[push_cast,g0,g4,g6,xb,srcOf,simprocAttr];exact⟨some b,xo,x1,xr,xf,by simp[g0],by simp[g4],by simp only[push_cast,simprocAttr]; rfl⟩
  | some wb =>
   rw[hwb] at T3;simp only at T3;obtain⟨w1,w2,w3⟩:=T3;have xw:X[wb]?=some (.cells true (fds t.ws)):=(xo wb (lt_of_get w3) w2).trans w3;have lw:=lt_of_get w3;simp only[TM.cs,hwb,rv] at xb;have k9:(t.ws.length*2<=(fds t.ws).length)=True:=eq_true (by rw[fds_len]; omega);have k8:(fds t.ws).take (t.ws.length*2)=fds t.ws:=by rw[<- fds_len]; exact List.take_length
   by_cases h0:t.ws.length=0
   ·have hw0:t.ws=[]:=List.eq_nil_of_length_eq_zero h0;rw[hw0,List.append_nil];rw[hw0] at xb xw;have k7:(0<=(fds []).length)=True:=eq_true (Nat.zero_le _);cases fb with
    | none =>
     simp only[rv] at g6;simp only[push_cast,g0,g4,g6,xb,xw,srcOf,Nat.zero_mul,k7,simprocAttr];exact⟨none,xo,x1,xr,xf,by simp[g0],by simp[g4],by simp only[push_cast,simprocAttr]; rfl⟩
    | some b =>
     simp only[rv] at g6;simp only[push_cast,g0,g4,g6,xb,xw,srcOf,Nat.zero_mul,k7,simprocAttr];exact⟨some b,xo,x1,xr,xf,by simp[g0],by simp[g4],by simp only[push_cast,simprocAttr]; rfl⟩
   ·have h0':(t.ws.length=0)=False:=eq_false h0;have hm:=T.m;cases fb with
    | none =>
     have hl:firedL E H0 t real mono=[]:=xf;simp only[rv] at g6;have k6:(t.ws.length*16<=140737488355328)=True:=eq_true (by omega);simp only[push_cast,g0,g4,g6,xb,xw,srcOf,k8,k9,h0',k6,fds_single,simprocAttr];refine⟨some X.length,fun j j1 j2=>by rw[get_lt (by omega)]; exact xo j j1 j2,get_old x1,?_,⟨by omega,by rw[get_app0,hl]; rfl⟩,by simp[g0],by simp[g4],by rw[hl]; simp only[push_cast,simprocAttr]; rfl⟩;cases hrb:t.rb with
     | none=>trivial
     | some rb=>rw[hrb] at xr; exact get_old xr
    | some b =>
     obtain⟨xf1,xf2⟩:=xf;have lb2:=lt_of_get xf2;have hfl:(firedL E H0 t real mono).length<=1000:=Nat.le_trans (List.length_filterMap_le _ _) T.n;simp only[rv] at g6;have k6:(((firedL E H0 t real mono).length+t.ws.length)*16<=140737488355328)=True:=eq_true (by omega);have k5:((firedL E H0 t real mono).length*2=(fds (firedL E H0 t real mono)).length)=True:=eq_true (fds_len _).symm;simp only[push_cast,g0,g4,g6,xb,xw,xf2,srcOf,k8,k9,h0',k5,k6,fds_single,simprocAttr];refine⟨some X.length,fun j j1 j2=>by rw[get_lt (by simp; omega),set_ne (by omega)]; exact xo j j1 j2,by rw[get_lt (by simpa using hxl),set_ne (by omega)]; exact x1,?_,⟨by omega,by rw[get_appC0 (by simp),fds_app]; rfl⟩,by simp[g0],by simp[g4],by simp only[push_cast,simprocAttr]; simp[rv]⟩;have T2:=T.row;cases hrb:t.rb with
     | none=>trivial
     | some rb =>
      rw[hrb] at xr T2;have:=lt_of_get T2.2;simp only;rw[get_lt (by simp; omega),set_ne (by omega)]; exact xr
 clear g0 g4 g6 g xo x1 xr xf xb fb hxl;rintro g X ⟨fb,xo,x1,xr,xf,g0,g4,g6⟩
 have xb:X[tb]?=some (.cells true t.cs):=(xo tb lb (by
  have T2:=T.row;intro e;rw[e] at T2;exact T2.1 rfl)).trans T.blk
 have hxl:h.length+1<X.length:=lt_of_get x1;have lbX:=lt_of_get xb;simp only[TM.cs] at xb
 have out:∀Z:Hp,Z.length>=h.length->Z[tb]?=some (.cells true (t.fire E H0 real mono).cs)->(∀j,j≠tb->j<h.length->Z[j]?=X[j]?)->(Z.take h.length).length=h.length/\(t.fire E H0 real mono).In tb (Z.take h.length)/\∀j,j≠tb->t.rb≠some j->(Z.take h.length)[j]?=h[j]?:=by
  intro Z z1 z2 z3;refine⟨by simp; omega,⟨by rw[List.getElem?_take,if_pos lb]; exact z2,?_,rfl,by simpa[TM.fire] using T.n,by simp[TM.fire]⟩,fun j j1 j2=>?_⟩
  ·have T2:=T.row;simp only[TM.fire];cases hrb:t.rb with
   | none=>rw[hrb] at T2; simp only at T2 ⊢; rw[T2]; rfl
   | some rb =>
    rw[hrb] at T2 xr;have:=lt_of_get T2.2;exact⟨T2.1,by rw[List.getElem?_take,if_pos this,z3 rb T2.1 this]; exact xr⟩
  ·by_cases hj:j<h.length
   ·rw[List.getElem?_take,if_pos hj,z3 j j1 hj]; exact xo j hj j2
   ·rw[List.getElem?_eq_none (by simp; omega),List.getElem?_eq_none (by omega)]
 have csF:(t.fire E H0 real mono).cs=[.slice none 0 0,.int .i64 t.k.acc,.int .i64 t.rnd,.bool t.per,.bool t.oc,.bool t.oz,.string t.un,.int .i64 t.k.late,rv t.rb t.xs.length 14,.bool t.act,.int .i64 t.k.st,.int .i64 t.k.ac,.int .i64 t.k.up,.int .i64 t.k.dn,.int .i64 t.b0,.int .i64 t.s0,zv t.k.z,.slice none 0 0]:=by simp[TM.fire,TM.cs,rv]
 cases hl:firedL E H0 t real mono++t.ws with
 | nil =>
  have h6:g.rd 6=rv fb 0 2:=by rw[g6,hl]; rfl
  have hX1:∀x,(X.set tb x)[h.length+1]?=some (.cells true [.int .u8 0,.int .i64 0]):=fun x=>by rw[set_ne (by omega)]; exact x1
  have hl1:∀x,h.length+1<(X.set tb x).length:=fun x=>by simpa using hxl
  cases fb with
  | none =>
   simp only[rv] at h6;simp only[push_cast,g0,g4,h6,xb,hX1,set_get (hl1 _),simprocAttr];refine⟨rfl,out _ (by simp; omega) ?_ ?_⟩
   ·rw[set_ne (by omega),set_get lbX,csF]
   ·intro j j1 j2;rw[set_ne (by omega),set_ne (by omega)]
  | some b =>
   simp only[rv] at h6;simp only[push_cast,g0,g4,h6,xb,hX1,set_get (hl1 _),simprocAttr];refine⟨rfl,out _ (by simp; omega) ?_ ?_⟩
   ·rw[set_ne (by omega),set_get lbX,csF]
   ·intro j j1 j2;rw[set_ne (by omega),set_ne (by omega)]
 | cons p l =>
  rw[hl] at xf;cases fb with
  | none=>cases xf
  | some b =>
   obtain⟨xf1,xf2⟩:=xf;have h6:g.rd 6=.slice (some ⟨b,0,none⟩) (l.length+1) 2:=by rw[g6,hl]; rfl
   have e0:((l.length:Int)+1==0)=false:=by simp; omega
   have e1:(0<(l.length:Int)+1)=True:=eq_true (by omega);have hX1:∀x,(X.set tb x)[h.length+1]?=some (.cells true [.int .u8 0,.int .i64 0]):=fun x=>by rw[set_ne (by omega)]; exact x1
   have hl1:∀x,h.length+1<(X.set tb x).length:=fun x=>by simpa using hxl
   have hb2:∀x,(X.set tb x)[b]?=some (.cells true (fds (p::l))):=fun x=>by rw[set_ne (by omega)]; exact xf2
   have e2:(fds (p::l)).take 2=[.int .u8 p.1,.int .i64 p.2]:=rfl;have e3:(2<=(fds (p::l)).length)=True:=eq_true (by rw[fds_len]; simp; omega);simp only[push_cast,g0,g4,h6,xb,hX1,set_get (hl1 _),e0,e1,hb2,e2,e3,Nat.zero_mul,simprocAttr];refine⟨rfl,out _ (by simp; omega) ?_ ?_⟩
   ·rw[set_ne (by omega),set_get lbX,csF]
   ·intro j j1 j2;rw[set_ne (by omega),set_ne (by omega)]
end
section
open Tb
def wd (p:Bool×Int×Int):List Value:=[.bool p.1,.int .i64 p.2.1,.int .i64 p.2.2]
def wds (l:List (Bool×Int×Int)):List Value:=l.flatMap wd
theorem wds_len (l:List (Bool×Int×Int)):(wds l).length=l.length*3:=chunk_len (f:=wd) (k:=3) (fun _=>rfl) l
def WRow (X:Hp)(lo:Nat)(b:Option Nat)(l:List (Bool×Int×Int)):Prop:=match b with
 | none=>l=[]
 | some b=>lo<=b/\X[b]?=some (.cells true (wds l))
theorem WRow.grow {X:Hp}{lo:Nat}{b:Option Nat}{l:List (Bool×Int×Int)}(H:WRow X lo b l)(Y:Hp):WRow (X++Y) lo b l:=by
 cases b with
 | none=>exact H
 | some b=>exact⟨H.1,get_old H.2⟩
noncomputable def winK (E:Env)(H0:Hp)(k:KN)(x:TK):Option (Bool×Int×Int):=match dueK E H0 k x with
 | none=>none
 | some (r,n)=>if aroundF n k.late k.acc=true then some (r,n+k.late,n+k.late+k.acc) else none
noncomputable def winL (E:Env)(H0:Hp)(t:TM):List (Bool×Int×Int):=t.xs.filterMap (winK E H0 t.k)++t.ws.map fun p=>(true,p.2,p.2)
variable {E:Env}(C:Conds E){lim:Nat}{h H0:Hp}{F:Nat->Prop}
include C
theorem c24_off {t:TM}{tb:Nat}(hb:h[tb]?=some (.cells true t.cs))(ha:t.act=false):evI E lim (.func 24) [.pointer (some ⟨tb,0,none⟩)] h=some (.slice none 0 0,h):=by
 have hE:=C.hE;have e35:=c35 C (lim:=lim) (h:=h) (t:=t) hb;rw[ha] at e35;rw[hE.fn T24]; simp only[push_cast,ac24,e35,simprocAttr]
theorem loop24a {t:TM}{tb rb:Nat}(hrb:t.rb=some rb)(hne:rb≠tb)(hk:t.k.Ok)(hx:∀x∈t.xs,x.Ok/\AskF E H0 F t.k.z x)(hn:t.xs.length<=1000)(c0:Ctx H0 F h)(b0:h[tb]?=some (.cells true t.cs))(r0:h[rb]?=some (.cells true (tks t.xs)))(hlim:lim<=h.length)
  {f:Fr}(f0:f.rd 0=.pointer (some ⟨tb,0,none⟩))(f3:f.rd 3=.slice none 0 0)(f17:f.rd 17=.slice (some ⟨rb,0,none⟩) t.xs.length 14)(f18:f.rd 18=.int .i64 t.xs.length)(f19:f.rd 19=.int .i64 0){P:AX->Fr->Hp->Prop}
  (hP:∀f' X fb,(∀j,j<h.length->X[j]?=h[j]?)->h.length<=X.length->WRow X h.length fb (t.xs.filterMap (winK E H0 t.k))->f'.rd 0=.pointer (some ⟨tb,0,none⟩)->f'.rd 3=rv fb (t.xs.filterMap (winK E H0 t.k)).length 3->P (.exit 0) f' X):Post (evK E lim (.loop lp24_1) f h) P:=by
 have hE:=C.hE
 refine loop_post hE.mono (fun q g X=>∃(i:Nat) (fb:Option Nat),i<=t.xs.length/\(∀j,j<h.length->X[j]?=h[j]?)/\h.length<=X.length/\WRow X h.length fb ((t.xs.take i).filterMap (winK E H0 t.k)) /\
  g.rd 0=.pointer (some ⟨tb,0,none⟩)/\g.rd 3=rv fb ((t.xs.take i).filterMap (winK E H0 t.k)).length 3/\g.rd 17=.slice (some ⟨rb,0,none⟩) t.xs.length 14/\g.rd 18=.int .i64 t.xs.length/\g.rd 19=.int .i64 i/\t.xs.length-i=q) ?_ t.xs.length _ _ ⟨0,none,Nat.zero_le _,fun _ _=>rfl,Nat.le_refl _,rfl,f0,f3,f17,f18,f19,rfl⟩
 clear f0 f3 f17 f18 f19;rintro q g X ⟨i,fb,hi,xo,xl,xf,g0,g3,g17,g18,g19,hq⟩
 by_cases hlt:(i:Int)<t.xs.length
 ·have hi':i<t.xs.length:=by omega
  obtain⟨x,hxi⟩:∃x,t.xs[i]?=some x:=⟨_,List.getElem?_eq_getElem hi'⟩;have hmem:x∈t.xs:=List.mem_of_getElem? hxi;obtain⟨xok,xask⟩:=hx x hmem;have a3:((tks t.xs).drop (i*14)).take 14=x.cs:=chunk_get TK.cs_len _ _ _ hxi;have a4:(i*14+14<=(tks t.xs).length)=True:=eq_true (by rw[tks_len]; omega);have a2:(0<=(i:Int))=True:=by simp
  have a5:(i<t.xs.length)=True:=eq_true hi';have a8:=wn1 (i:=i);have xb:=(xo tb (lt_of_get b0)).trans b0;have xr:=(xo rb (lt_of_get r0)).trans r0;have cX:Ctx H0 F X:=c0.of fun j hj=>xo j (c0.L j hj);have e66:=c66 C (lim:=lim) (h:=X++[.cells true x.cs]) (t:=t) (tb:=tb) (get_old xb) hk xok xask (cX.app _);have x6:∀q:Prop,(lim<=X.length\/q)=True:=fun q=>by simp; omega
  have t_len:((t.xs.take (i+1)).filterMap (winK E H0 t.k))=(t.xs.take i).filterMap (winK E H0 t.k)++(match winK E H0 t.k x with | some y=>[y] | none=>[]):=by
   rw[List.take_add_one,hxi,List.filterMap_append];simp only[Option.toList]
   congr 1
   simp only[List.filterMap_cons,List.filterMap_nil];split<;>simp_all
  simp only[TK.cs] at a3 e66;simp only[TM.cs,hrb,rv] at xb;cases hd:dueK E H0 t.k x with
  | none =>
   rw[hd] at e66;simp only[winR] at e66
   have E2:((t.xs.take (i+1)).filterMap (winK E H0 t.k))=(t.xs.take i).filterMap (winK E H0 t.k):=by
    rw[t_len,show winK E H0 t.k x=none by unfold winK; rw[hd]]; exact List.append_nil _
   simp only[push_cast,lp24_1,g0,g3,g17,g18,g19,hlt,a2,a3,a4,a5,a8,xr,x6,e66,simprocAttr];exact⟨_,(by omega:t.xs.length-(i+1)<q),i+1,fb,by omega,fun j j1=>by rw[get_lt (by omega)]; exact xo j j1,by first | omega | (simp; omega),by rw[E2]; exact xf.grow _,by rw[E2],rfl,rfl⟩
  | some p =>
   obtain⟨r,n⟩:=p;rw[hd] at e66;cases ha:aroundF n t.k.late t.k.acc with
   | false =>
    simp only[winR,ha,Bool.false_eq_true,if_false] at e66
    have E2:((t.xs.take (i+1)).filterMap (winK E H0 t.k))=(t.xs.take i).filterMap (winK E H0 t.k):=by
     rw[t_len,show winK E H0 t.k x=none by unfold winK; rw[hd]; simp[ha]]; exact List.append_nil _
    simp only[push_cast,lp24_1,g0,g3,g17,g18,g19,hlt,a2,a3,a4,a5,a8,xr,x6,e66,simprocAttr];exact⟨_,(by omega:t.xs.length-(i+1)<q),i+1,fb,by omega,fun j j1=>by rw[get_lt (by omega)]; exact xo j j1,by first | omega | (simp; omega),by rw[E2]; exact xf.grow _,by rw[E2],rfl,rfl⟩
   | true =>
    simp only[winR,ha,if_true] at e66
    have E2:((t.xs.take (i+1)).filterMap (winK E H0 t.k))=(t.xs.take i).filterMap (winK E H0 t.k)++[(r,n+t.k.late,n+t.k.late+t.k.acc)]:=by
     rw[t_len,show winK E H0 t.k x=some (r,n+t.k.late,n+t.k.late+t.k.acc) by unfold winK; rw[hd]; simp[ha]]
    cases fb with
    | none =>
     have xf':((t.xs.take i).filterMap (winK E H0 t.k))=[]:=xf;simp only[rv] at g3;simp only[push_cast,lp24_1,g0,g3,g17,g18,g19,hlt,a2,a3,a4,a5,a8,xr,x6,e66,srcOf,simprocAttr];refine⟨_,(by omega:t.xs.length-(i+1)<q),i+1,some (X.length+4),by omega,fun j j1=>by rw[get_lt (by omega)]; exact xo j j1,by first | omega | (simp; omega),⟨by omega,?_⟩,?_,rfl,rfl⟩
     ·rw[get_appC (n:=X.length) (k:=4) rfl,E2,xf']; rfl
     ·rw[E2,xf']; rfl
    | some b =>
     obtain⟨xf1,xf2⟩:=xf;have lb:=lt_of_get xf2;have hfl:((t.xs.take i).filterMap (winK E H0 t.k)).length<=1000:=Nat.le_trans (List.length_filterMap_le _ _) (by simp; omega);generalize hfr:((t.xs.take i).filterMap (winK E H0 t.k))=fr at *;simp only[rv] at g3;have k1:∀l,(X++l)[b]?=some (.cells true (wds fr)):=fun l=>get_old xf2;have k2:∀l y,(X++l).set b y=X.set b y++l:=fun l y=>set_old lb;have k9:(fr.length*3=(wds fr).length)=True:=eq_true (wds_len fr).symm;have k10:((fr.length+1)*24<=140737488355328)=True:=eq_true (by omega);simp only[push_cast,lp24_1,g0,g3,g17,g18,g19,hlt,a2,a3,a4,a5,a8,xr,x6,e66,srcOf,k1,k2,k9,k10,simprocAttr];refine⟨_,(by omega:t.xs.length-(i+1)<q),i+1,some (X.length+4),by omega,fun j j1=>by rw[get_lt (by simp; omega),set_ne (by omega)]; exact xo j j1,by first | omega | (simp; omega),⟨by omega,?_⟩,?_,rfl,rfl⟩
     ·rw[get_appC (n:=X.length) (k:=4) (by simp),E2]; simp[wds,wd]
     ·rw[E2]; simp[rv]
 ·simp only[push_cast,lp24_1,g18,g19,hlt,simprocAttr];have:i=t.xs.length:=by omega
  subst this;rw[List.take_length] at xf g3;refine hP _ X fb xo xl xf ?_ ?_<;>first | assumption | simp only[push_cast,g0,g3,simprocAttr]
theorem loop24b {t:TM}{wb:Nat}(hm:t.ws.length<=1000){n0:Nat}{W0:Hp}(w0:W0[wb]?=some (.cells true (fds t.ws)))(hwl:wb<n0)(h0:n0<=W0.length){L:List (Bool×Int×Int)}(hL:L.length<=1000){fb:Option Nat}(F0:WRow W0 n0 fb L)
  {f:Fr}(f3:f.rd 3=rv fb L.length 3)(f39:f.rd 39=.slice (some ⟨wb,0,none⟩) t.ws.length 2)(f40:f.rd 40=.int .i64 t.ws.length)(f41:f.rd 41=.int .i64 0){P:AX->Fr->Hp->Prop}
  (hP:∀f' X fb,(∀j,j<n0->X[j]?=W0[j]?)->n0<=X.length->WRow X n0 fb (L++t.ws.map fun p=>(true,p.2,p.2))->f'.rd 3=rv fb (L++t.ws.map fun p=>(true,p.2,p.2)).length 3->P (.exit 2) f' X):Post (evK E lim (.loop lp24_0) f W0) P:=by
 have hE:=C.hE
 refine loop_post hE.mono (fun q g X=>∃(i:Nat) (fb:Option Nat),i<=t.ws.length/\(∀j,j<n0->X[j]?=W0[j]?)/\n0<=X.length/\WRow X n0 fb (L++(t.ws.take i).map fun p=>(true,p.2,p.2)) /\
  g.rd 3=rv fb (L++(t.ws.take i).map fun p=>(true,p.2,p.2)).length 3/\g.rd 39=.slice (some ⟨wb,0,none⟩) t.ws.length 2/\g.rd 40=.int .i64 t.ws.length/\g.rd 41=.int .i64 i/\t.ws.length-i=q) ?_ t.ws.length _ _ ⟨0,fb,Nat.zero_le _,fun _ _=>rfl,h0,by simpa using F0,by simpa using f3,f39,f40,f41,rfl⟩
 clear f3 f39 f40 f41 F0;rintro q g X ⟨i,fb,hi,xo,xl,xf,g3,g39,g40,g41,hq⟩
 by_cases hlt:(i:Int)<t.ws.length
 ·have hi':i<t.ws.length:=by omega
  obtain⟨x,hxi⟩:∃x,t.ws[i]?=some x:=⟨_,List.getElem?_eq_getElem hi'⟩;have a3:((fds t.ws).drop (i*2)).take 2=fd x:=chunk_get (f:=fd) (fun _=>rfl) _ _ _ hxi;simp only[fd] at a3;have a4:(i*2+2<=(fds t.ws).length)=True:=eq_true (by rw[fds_len]; omega);have a2:(0<=(i:Int))=True:=by simp
  have a5:(i<t.ws.length)=True:=eq_true hi';have a8:=wn1 (i:=i);have xw:=(xo wb hwl).trans w0
  have t_len:L++(t.ws.take (i+1)).map (fun p=>(true,p.2,p.2))=(L++(t.ws.take i).map (fun p=>(true,p.2,p.2)))++[(true,x.2,x.2)]:=by
   rw[List.take_add_one,hxi,List.map_append,List.append_assoc]; rfl
  have hfl:(L++(t.ws.take i).map (fun p=>(true,p.2,p.2))).length<=2000:=by simp; omega
  generalize hfr:L++(t.ws.take i).map (fun p=>(true,p.2,p.2))=fr at *;cases fb with
  | none =>
   have xf':fr=[]:=xf;simp only[rv] at g3;simp only[push_cast,lp24_0,g3,g39,g40,g41,hlt,a2,a3,a4,a5,a8,xw,srcOf,simprocAttr];refine⟨_,(by omega:t.ws.length-(i+1)<q),i+1,some (X.length+2),by omega,fun j j1=>by rw[get_lt (by omega)]; exact xo j j1,by first | omega | (simp; omega),⟨by omega,?_⟩,?_,rfl,rfl⟩
   ·rw[get_appC (n:=X.length) (k:=2) rfl,t_len,xf']; rfl
   ·rw[t_len,xf']; rfl
  | some b =>
   obtain⟨xf1,xf2⟩:=xf;have lb:=lt_of_get xf2;simp only[rv] at g3;have k1:∀l,(X++l)[b]?=some (.cells true (wds fr)):=fun l=>get_old xf2;have k2:∀l y,(X++l).set b y=X.set b y++l:=fun l y=>set_old lb;have k9:(fr.length*3=(wds fr).length)=True:=eq_true (wds_len fr).symm;have k10:((fr.length+1)*24<=140737488355328)=True:=eq_true (by omega);simp only[push_cast,lp24_0,g3,g39,g40,g41,hlt,a2,a3,a4,a5,a8,xw,srcOf,k1,k2,k9,k10,simprocAttr];refine⟨_,(by omega:t.ws.length-(i+1)<q),i+1,some (X.length+2),by omega,fun j j1=>by rw[get_lt (by simp; omega),set_ne (by omega)]; exact xo j j1,by first | omega | (simp; omega),⟨by omega,?_⟩,?_,rfl,rfl⟩
   ·rw[get_appC (n:=X.length) (k:=2) (by simp),t_len]; simp[wds,wd]
   ·rw[t_len]; simp[rv]
 ·simp only[push_cast,lp24_0,g40,g41,hlt,simprocAttr];have:i=t.ws.length:=by omega
  subst this;rw[List.take_length] at xf g3;refine hP _ X fb xo xl xf ?_<;>first | assumption | simp only[push_cast,g3,simprocAttr]
end
section
open Tb
theorem rv_none (n k:Nat):rv none n k=.slice none 0 0:=rfl
theorem rv_some (b n k:Nat):rv (some b) n k=.slice (some ⟨b,0,none⟩) n k:=rfl
def startX (real stamp:Int)(x:TK):TK:={ x with base:=if stamp<0 then real else min real stamp,spent:=-1 }
def TM.start (t:TM)(real mono smono stamp:Int)(Z:Option ZN):TM:={ t with act:=true,k:={ t.k with st:=smono,ac:=mono,z:=Z },wb:=none,ws:=[],xs:=t.xs.map (startX real stamp) }
variable {E:Env}(C:Conds E){lim:Nat}{h H0:Hp}{F:Nat->Prop}
include C
theorem c24 {t:TM}{tb:Nat}(T:t.In tb h)(hk:t.k.Ok)(hx:∀x∈t.xs,x.Ok/\AskF E H0 F t.k.z x)(c:Ctx H0 F h)(ha:t.act=true)(hlim:lim<=h.length) :
  PostV (evI E lim (.func 24) [.pointer (some ⟨tb,0,none⟩)] h) fun v h'=>∃fb,v=rv fb (winL E H0 t).length 3/\WRow h' h.length fb (winL E H0 t)/\(∀j,j<h.length->h'[j]?=h[j]?)/\h.length<=h'.length:=by
 have hE:=C.hE;have lb:=lt_of_get T.blk;have e35:=c35 C (lim:=lim) (h:=h) (t:=t) T.blk;rw[ha] at e35;have hxs:=Nat.le_trans (List.length_filterMap_le (winK E H0 t.k) t.xs) T.n;refine post_fn hE T24 (Nat.le_of_ble_eq_true rfl) ?_;show Post (evK E lim ac24 _ _) _;unfold ac24;refine post_mid hE.mono (fun g W=>h=W/\g.rd 0=.pointer (some ⟨tb,0,none⟩)) (by simp only[push_cast,simprocAttr]) ?_;rintro g W ⟨rfl,g0⟩;refine post_mid hE.mono (fun g W=>h=W/\g.rd 0=.pointer (some ⟨tb,0,none⟩)) (by simp only[push_cast,g0,e35,simprocAttr]) ?_;clear g0 g;rintro g W ⟨rfl,g0⟩;refine post_mid hE.mono (fun g W=>h=W/\g.rd 0=.pointer (some ⟨tb,0,none⟩)/\g.rd 3=.slice none 0 0) (by simp only[push_cast,g0,simprocAttr]) ?_;clear g0 g;rintro g W ⟨rfl,g0,g3⟩;refine post_mid hE.mono (fun g X=>∃fb,(∀j,j<h.length->X[j]?=h[j]?)/\h.length<=X.length/\WRow X h.length fb (t.xs.filterMap (winK E H0 t.k))/\g.rd 0=.pointer (some ⟨tb,0,none⟩)/\g.rd 3=rv fb (t.xs.filterMap (winK E H0 t.k)).length 3) ?_ ?_
 ·have T2:=T.row;have hb':=T.blk;cases hrb:t.rb with
  | none =>
   rw[hrb] at T2;simp only at T2;simp only[TM.cs,hrb,rv,T2] at hb';simp only[push_cast,g0,g3,hb',evK_loop' hE.mono,lp24_1,Int.lt_irrefl,simprocAttr];exact⟨none,by rw[T2]; rfl,by rw[T2]; first | rfl | (simp only[push_cast,g3,simprocAttr]; rfl)⟩
  | some rb =>
   rw[hrb] at T2;simp only at T2;simp only[TM.cs,hrb,rv] at hb';simp only[push_cast,g0,g3,hb',simprocAttr];refine loop24a C hrb T2.1 hk hx T.n c T.blk T2.2 hlim (by simp[g0]) (by simp[g3]) (by simp) (by simp) (by simp) ?_;intro f X fb xo xl xf q0 q3;simp only[push_cast,simprocAttr];exact⟨fb,xo,xl,xf,q0,q3⟩
 clear g0 g3 g;rintro g X ⟨fb,xo,xl,xf,g0,g3⟩;have xb:=(xo tb lb).trans T.blk;have T3:=T.wai;cases hwb:t.wb with
 | none =>
  rw[hwb] at T3;simp only at T3;simp only[TM.cs,hwb,rv] at xb;have hw:winL E H0 t=t.xs.filterMap (winK E H0 t.k):=by unfold winL; rw[T3]; exact List.append_nil _
  rw[hw];cases fb with
  | none =>
   simp only[rv] at g3;simp only[push_cast,g0,g3,xb,evK_loop' hE.mono,lp24_0,Int.lt_irrefl,simprocAttr];exact⟨none,rfl,xf,xo,xl⟩
  | some b =>
   simp only[rv] at g3;simp only[push_cast,g0,g3,xb,evK_loop' hE.mono,lp24_0,Int.lt_irrefl,simprocAttr];exact⟨some b,rfl,xf,xo,xl⟩
 | some wb =>
  rw[hwb] at T3;simp only at T3;simp only[TM.cs,hwb,rv] at xb;simp only[push_cast,g0,g3,xb,simprocAttr];refine loop24b C (t:=t) T.m ((xo wb (lt_of_get T3.2.2)).trans T3.2.2) (lt_of_get T3.2.2) xl hxs xf (by simp[g3]) (by simp) (by simp) (by simp) ?_;intro f X2 fb2 xo2 xl2 xf2 q3;cases fb2 with
  | none =>
   simp only[rv] at q3;simp only[push_cast,q3,simprocAttr];exact⟨none,rfl,xf2,fun j hj=>(xo2 j hj).trans (xo j hj),xl2⟩
  | some b =>
   simp only[rv] at q3;simp only[push_cast,q3,simprocAttr];exact⟨some b,rfl,xf2,fun j hj=>(xo2 j hj).trans (xo j hj),xl2⟩
theorem c31 {t:TM}{tb:Nat}(hb:h[tb]?=some (.cells true t.cs)):evI E lim (.func 31) [.pointer (some ⟨tb,0,none⟩)] h=some (undef,h.set tb (.cells true ({ t with act:=false }:TM).cs)):=by
 have hE:=C.hE;simp only[TM.cs] at hb ⊢;rw[hE.fn T31]; simp only[push_cast,ac31,hb,take_set,simprocAttr];rfl
theorem c27 {t:TM}{tb:Nat}(hb:h[tb]?=some (.cells true t.cs))(up:Bool)(real mono:Int):evI E lim (.func 27) [.pointer (some ⟨tb,0,none⟩),.bool up,.agg #[.int .i64 real,.int .i64 mono]] h=some (undef,h.set tb (.cells true (if up then { t with k:={ t.k with up:=mono } } else { t with k:={ t.k with dn:=mono } }:TM).cs)):=by
 have hE:=C.hE;have lb:=lt_of_get hb;have k1:∀l,(h++l)[tb]?=some (.cells true t.cs):=fun l=>get_old hb;have k2:∀x l,(h++l).set tb x=h.set tb x++l:=fun x l=>set_old lb;have k3:∀x l,(h.set tb x++l).take h.length=h.set tb x:=fun x l=>take_appC (by simp);simp only[TM.cs] at k1 ⊢;cases up with
 | true=>rw[hE.fn T27]; simp only[push_cast,ac27,k1,k2,k3,simprocAttr]
         rfl
 | false=>rw[hE.fn T27]; simp only[push_cast,ac27,k1,k2,k3,simprocAttr]
          rfl
theorem loop20 {t:TM}{tb rb:Nat}(hrb:t.rb=some rb)(hne:rb≠tb)(hn:t.xs.length<=1000){real mono stamp:Int}{n0:Nat}{X0:Hp}(b0:X0[tb]?=some (.cells true t.cs))(r0:X0[rb]?=some (.cells true (tks t.xs)))(w0:X0[n0]?=some (.cells true [.int .i64 real,.int .i64 mono]))(hn0:n0≠rb)
  {f:Fr}(f0:f.rd 0=.pointer (some ⟨tb,0,none⟩))(f3:f.rd 3=.int .i64 stamp)(f6:f.rd 6=.pointer (some ⟨n0,0,none⟩))(f46:f.rd 46=.int .i64 t.xs.length)(f47:f.rd 47=.int .i64 0){P:AX->Fr->Hp->Prop}
  (hP:∀f',P (.exit 1) f' (X0.set rb (.cells true (tks (t.xs.map (startX real stamp)))))):Post (evK E lim (.loop lp20_0) f X0) P:=by
 have hE:=C.hE;have lr:=lt_of_get r0
 refine loop_post hE.mono (fun q g X=>∃(i:Nat),i<=t.xs.length/\X=X0.set rb (.cells true (tks (updN (startX real stamp) i t.xs))) /\
  g.rd 0=.pointer (some ⟨tb,0,none⟩)/\g.rd 3=.int .i64 stamp/\g.rd 6=.pointer (some ⟨n0,0,none⟩)/\g.rd 46=.int .i64 t.xs.length/\g.rd 47=.int .i64 i/\t.xs.length-i=q) ?_ t.xs.length _ _ ⟨0,Nat.zero_le _,(set_same r0).symm,f0,f3,f6,f46,f47,rfl⟩
 clear f0 f3 f6 f46 f47;rintro q g X ⟨i,hi,rfl,g0,g3,g6,g46,g47,hq⟩
 by_cases hlt:(i:Int)<t.xs.length
 ·have hi':i<t.xs.length:=by omega
  obtain⟨x,hxi⟩:∃x,t.xs[i]?=some x:=⟨_,List.getElem?_eq_getElem hi'⟩;have ul:=updN_len (startX real stamp) i t.xs;have uget:=updN_get (u:=startX real stamp) hxi;have a2:(0<=(i:Int))=True:=by simp
  have a5:(i<t.xs.length)=True:=eq_true hi';have a8:=wn1 (i:=i);have E3:=updN_set (u:=startX real stamp) hxi;have xb:∀y,(X0.set rb y)[tb]?=some (.cells true t.cs):=fun y=>by rw[set_ne hne]; exact b0
  have xw:∀y,(X0.set rb y)[n0]?=some (.cells true [.int .i64 real,.int .i64 mono]):=fun y=>by rw[set_ne (by omega)]; exact w0
  generalize hys:updN (startX real stamp) i t.xs=ys at *
  have E1:((tks ys).set (i*14+12) (.int .i64 (if stamp<0 then real else min real stamp))).set (i*14+13) (.int .i64 (-1))=tks (updN (startX real stamp) (i+1) t.xs):=by
   rw[<- E3];have e1:(tks ys).set (i*14+12) (.int .i64 (if stamp<0 then real else min real stamp))=tks (ys.set i { x with base:=if stamp<0 then real else min real stamp }):=chunk_set TK.cs_len ys i x _ 12 _ uget (by omega) rfl;rw[e1];have e2:=chunk_set TK.cs_len (ys.set i { x with base:=if stamp<0 then real else min real stamp }) i { x with base:=if stamp<0 then real else min real stamp } (startX real stamp x) 13 (.int .i64 (-1)) (List.getElem?_set_self (by omega)) (by omega) rfl;rw[List.set_set] at e2;exact e2
  have a9:(i*14+12+1<=(tks ys).length)=True:=eq_true (by rw[tks_len,ul]; omega);have a10:(i*14+13+1<=(tks ys).length)=True:=eq_true (by rw[tks_len,ul]; omega);simp only[TM.cs,hrb,rv] at xb;simp only[push_cast,lp20_0,g0,g3,g6,g46,g47,hlt,a2,a5,a8,a9,a10,xb,xw,c61 hE,set_get lr,sureL,E1,simprocAttr];exact⟨_,(by omega:t.xs.length-(i+1)<q),i+1,by omega,rfl,rfl,rfl⟩
 ·simp only[push_cast,lp20_0,g46,g47,hlt,simprocAttr];have:i=t.xs.length:=by omega
  subst this;rw[updN_all];exact hP _
theorem c20_on {t:TM}{tb:Nat}(hb:h[tb]?=some (.cells true t.cs))(ha:t.act=true)(a b c d s:Int)(Z:Option ZN):evI E lim (.func 20) [.pointer (some ⟨tb,0,none⟩),.agg #[.int .i64 a,.int .i64 b],.agg #[.int .i64 c,.int .i64 d],.int .i64 s,zv Z] h=some (.int .i64 4,h++[.cells true [.int .i64 a,.int .i64 b],.cells true [.int .i64 c,.int .i64 d]]):=by
 have hE:=C.hE;have k1:∀l,(h++l)[tb]?=some (.cells true t.cs):=fun l=>get_old hb;simp only[TM.cs,ha] at k1;rw[hE.fn T20]; simp only[push_cast,ac20,k1,simprocAttr]
theorem c20 {t:TM}{tb:Nat}(T:t.In tb h)(ha:t.act=false)(hlim:lim<=tb)(real mono sreal smono stamp:Int)(Z:Option ZN) :
  PostV (evI E lim (.func 20) [.pointer (some ⟨tb,0,none⟩),.agg #[.int .i64 real,.int .i64 mono],.agg #[.int .i64 sreal,.int .i64 smono],.int .i64 stamp,zv Z] h) fun v h'=>v=.int .i64 0/\(t.start real mono smono stamp Z).In tb h'/\(∀j,j<h.length->j≠tb->t.rb≠some j->h'[j]?=h[j]?)/\h.length<=h'.length:=by
 have hE:=C.hE;have lb:=lt_of_get T.blk;have k1:∀l,(h++l)[tb]?=some (.cells true t.cs):=fun l=>get_old T.blk;have k2:∀x l,(h++l).set tb x=h.set tb x++l:=fun x l=>set_old lb;have k3:∀x l,(h.set tb x++l)[tb]?=some x:=fun x l=>get_old (set_get lb);have k6:∀x y l,(h.set tb x++l).set tb y=h.set tb y++l:=fun x y l=>by rw[set_old (by simpa using lb),List.set_set]
 have x6:∀q:Prop,(lim<=tb\/q)=True:=fun q=>by simp[hlim]
 have k4:∀x (l:Hp),(h.set tb x++l)[h.length]?=l[0]?:=fun x l=>get_appC0 (by simp);have k5:∀x (l:Hp) k,(h.set tb x++l)[h.length+k]?=l[k]?:=fun x l k=>get_appC (by simp);have T2:=T.row;have hlen:∀(X:Hp),(t.start real mono smono stamp Z).xs.length=t.xs.length:=fun _=>by simp[TM.start]
 obtain⟨p,hp⟩:=zv_ptr Z;rw[hp];simp only[TM.cs,ha] at k1;cases hrb:t.rb with
 | none =>
  rw[hrb] at T2;simp only at T2;rw[hE.fn T20]; simp only[push_cast,ac20,k1,k2,k3,k4,k5,k6,x6,sureL,hrb,T2,rv_none,evK_loop' hE.mono,lp20_0,Int.lt_irrefl,simprocAttr];refine⟨⟨?_,?_,rfl,by simp[TM.start,T2],by simp[TM.start]⟩,fun j j1 j2 _=>by rw[get_lt (by simpa using j1),set_ne (by omega)],by simp⟩
  ·rw[get_lt (by simpa using lb),set_get lb];simp[TM.start,TM.cs,hrb,T2,rv,hp]
  ·simp[TM.start,hrb,T2]
 | some rb =>
  rw[hrb] at T2;simp only at T2;obtain⟨r1,r2⟩:=T2;have lr:=lt_of_get r2;rw[hE.fn T20]; simp only[push_cast,ac20,k1,k2,k3,k4,k5,k6,x6,sureL,hrb,rv_some,simprocAttr];refine loop20 C (t:={ t with act:=true,k:={ t.k with st:=smono,ac:=mono,z:=Z },wb:=none,ws:=[] }) (tb:=tb) (rb:=rb) hrb r1 T.n (real:=real) (mono:=mono) (stamp:=stamp) (n0:=h.length) ?_ ?_ ?_ (by omega) (by simp) (by simp) (by simp) (by simp) (by simp) ?_
  ·rw[get_lt (by simpa using lb),set_get lb];simp[TM.cs,hrb,rv,hp]
  ·rw[get_lt (by simpa using lr),set_ne (by omega)];exact r2
  ·rw[get_appC0 (by simp)]; rfl
  ·intro f;simp only[push_cast,simprocAttr];refine⟨⟨?_,?_,rfl,by simpa[TM.start] using T.n,by simp[TM.start]⟩,fun j j1 j2 j3=>?_,by simp⟩
   ·rw[set_ne r1,get_lt (by simpa using lb),set_get lb];simp[TM.start,TM.cs,hrb,rv,hp]
   ·simp only[TM.start,hrb];exact⟨r1,set_get (by simp; omega)⟩
   ·rw[set_ne (fun e=>j3 (by rw[e])),get_lt (by simpa using j1),set_ne (by omega)]
end
section
open Tb
structure TG where
 kind:Int
 span:Int
 text:ByteArray
instance:Inhabited TG:=⟨⟨0,0,⟨#[]⟩⟩⟩
def TG.cs (g:TG):List Value:=[.int .u8 g.kind,.int .i64 g.span,.string g.text]
def TK.raw (x:TK):TG:=⟨x.kind,x.span,x.text⟩
def KeyOk (key:List Value):Prop:=∃k0 k1 k2 k3 k4 k5 k6 k7 k8 k9 k10 k11 k12 k13 k14 k15:Int,key=[.int .u8 k0,.int .u8 k1,.int .u8 k2,.int .u8 k3,.int .u8 k4,.int .u8 k5,.int .u8 k6,.int .u8 k7,.int .u8 k8,.int .u8 k9,.int .u8 k10,.int .u8 k11,.int .u8 k12,.int .u8 k13,.int .u8 k14,.int .u8 k15]
noncomputable def parseE (E:Env)(t:ByteArray):Int:=match evI E 0 (.func 16) [.string t] [] with
 | some (.tuple #[_,.int .i64 e],_)=>e
 | _=>0
noncomputable def lateV (E:Env)(key:List Value)(nm:ByteArray)(r:Int):Int:=match evI E 0 (.func 19) [.agg key.toArray,.string nm,.int .i64 r] [] with
 | some (.int .i64 n,_)=>n
 | _=>0
noncomputable def keepG (E:Env)(g:TG):Bool:=!(g.kind==1)||(parseE E g.text==0)
def SD.On (s:SD)(lo hi:Nat):Prop:=∀i,i<6->∀A,(s.at i).a=some A->lo<=A.block/\A.block<hi
def Spx (E:Env)(X:Hp)(x:TK)(tb rb:Nat):Prop:=∃lo hi,Made E X x.spec x.text lo hi/\x.spec.In X/\x.spec.Bd/\x.spec.On lo hi/\tb<lo/\hi<=rb
theorem SD.In.on {s:SD}{X Y:Hp}{lo hi:Nat}(H:s.In X)(O:s.On lo hi)(h:∀j,lo<=j->j<hi->Y[j]?=X[j]?):s.In Y:=by
 have pi:∀i,i<6->(s.at i).In X->(s.at i).In Y:=fun i hi hp=>by
  refine⟨?_,hp.2⟩;rcases hp.1 with hp | ⟨b,o,own,cs,e1,e2,e3,e4⟩
  ·exact .inl hp
  ·have:=O i hi _ e1;exact .inr ⟨b,o,own,cs,e1,e2,(h b this.1 this.2).trans e3,e4⟩
 exact⟨pi 0 (by omega) H.yr,pi 1 (by omega) H.mo,pi 2 (by omega) H.dy,pi 3 (by omega) H.hr,pi 4 (by omega) H.mi,pi 5 (by omega) H.se⟩
theorem Spx.of {E:Env}{X Y:Hp}{x:TK}{tb rb rb':Nat}(S:Spx E X x tb rb)(h:∀j,tb<j->j<rb->Y[j]?=X[j]?)(hr:rb<=rb'):Spx E Y x tb rb':=by
 obtain⟨lo,hi,a1,a2,a3,a4,a5,a6⟩:=S;exact⟨lo,hi,a1.of fun j j1 j2=>h j (by omega) (by omega),a2.on a4 fun j j1 j2=>h j (by omega) (by omega),a3,a4,a5,by omega⟩
def TM.csV (v:Value)(t:TM):List Value:=[v,.int .i64 t.k.acc,.int .i64 t.rnd,.bool t.per,.bool t.oc,.bool t.oz,.string t.un,.int .i64 t.k.late,rv t.rb t.xs.length 14,.bool t.act,.int .i64 t.k.st,.int .i64 t.k.ac,.int .i64 t.k.up,.int .i64 t.k.dn,.int .i64 t.b0,.int .i64 t.s0,zv t.k.z,rv t.wb t.ws.length 2]
variable {E:Env}(C:Conds E){lim:Nat}{h H0:Hp}{F:Nat->Prop}
include C
theorem parse_is (t:ByteArray)(hlim:lim<=h.length):PostV (evI E lim (.func 16) [.string t] h) fun v h'=>∃(s:SD),v=.tuple #[.agg s.cv.toArray,.int .i64 (parseE E t)]/\Agr h h'/\s.In h'/\s.Bd/\s.On h.length h'.length:=by
 obtain⟨v,h1,e,s,er,rfl,A,sI,sB,sN⟩:=(c16 C.hE C.hI C.hC C.hD C.hP C.hL C.hT (lim:=lim) (h:=h) t hlim).out;obtain⟨v0,h2,e0,s0,er0,rfl,-⟩:=(c16 C.hE C.hI C.hC C.hD C.hP C.hL C.hT (lim:=0) (h:=[]) t (Nat.zero_le _)).out;obtain⟨m1,v1,-,-⟩:=Q.evI_same C.hE.mono C.hQ (m:=fun _=>none) (.cons (.str t) .nil) ⟨(fun b b' h=>by cases h),(fun b c b' h=>by cases h)⟩ hlim (fun b b' h=>by cases h) e0 e;have hp:parseE E t=er0:=by unfold parseE; rw[e0]; rfl
 obtain⟨ys,e1,hl⟩:=v1.tup';cases e1;have:=hl.tail.head.int';cases this;rw[hp];refine PostV.of e ⟨s,rfl,A,sI,sB,fun i hi A hA=>⟨sN i hi A hA,?_⟩⟩
 have pi:(s.at i).In h1:=by
  have:=six hi;rcases this with rfl | rfl | rfl | rfl | rfl | rfl
  ·exact sI.yr
  ·exact sI.mo
  ·exact sI.dy
  ·exact sI.hr
  ·exact sI.mi
  ·exact sI.se
 have q:=pi.1;rw[hA] at q;exact q.block
theorem late_is {key:List Value}(hkey:KeyOk key)(nm:ByteArray)(hn:nm.size<1000000000){r:Int}(hr:r<=9223372036854775807):(∀lim h,evI E lim (.func 19) [.agg key.toArray,.string nm,.int .i64 r] h=some (.int .i64 (lateV E key nm r),h))/\0<=lateV E key nm r/\lateV E key nm r<=9223372036854775806/\(0<r->lateV E key nm r<r)/\(r<1->lateV E key nm r=0):=by
 obtain⟨k0,k1,k2,k3,k4,k5,k6,k7,k8,k9,k10,k11,k12,k13,k14,k15,rfl⟩:=hkey;have hE:=C.hE
 by_cases h1:r<1
 ·have e:=fun lim h=>c19_0 hE (lim:=lim) (h:=h) k0 k1 k2 k3 k4 k5 k6 k7 k8 k9 k10 k11 k12 k13 k14 k15 nm r h1;have hp:lateV E [.int .u8 k0,.int .u8 k1,.int .u8 k2,.int .u8 k3,.int .u8 k4,.int .u8 k5,.int .u8 k6,.int .u8 k7,.int .u8 k8,.int .u8 k9,.int .u8 k10,.int .u8 k11,.int .u8 k12,.int .u8 k13,.int .u8 k14,.int .u8 k15] nm r=0:=by unfold lateV; rw[e]
  rw[hp];exact⟨e,by omega,by omega,by omega,fun _=>rfl⟩
 ·obtain⟨v0,h0,e0,rfl,n0,rfl,n1,n2⟩:=(c19 hE (lim:=0) (h:=[]) k0 k1 k2 k3 k4 k5 k6 k7 k8 k9 k10 k11 k12 k13 k14 k15 nm r (by omega) hr hn).out;have hp:lateV E [.int .u8 k0,.int .u8 k1,.int .u8 k2,.int .u8 k3,.int .u8 k4,.int .u8 k5,.int .u8 k6,.int .u8 k7,.int .u8 k8,.int .u8 k9,.int .u8 k10,.int .u8 k11,.int .u8 k12,.int .u8 k13,.int .u8 k14,.int .u8 k15] nm r=n0:=by unfold lateV; rw[e0]
  rw[hp];refine⟨fun lim h=>?_,n1,by omega,fun _=>n2,fun h=>absurd h h1⟩;obtain⟨v,h',e,rfl,n',rfl,-,-⟩:=(c19 hE (lim:=lim) (h:=h) k0 k1 k2 k3 k4 k5 k6 k7 k8 k9 k10 k11 k12 k13 k14 k15 nm r (by omega) hr hn).out;obtain⟨m1,v1,-,-⟩:=Q.evI_same C.hE.mono C.hQ (m:=fun _=>none) (.cons (Q.LR.agg (Q.LR.flatQ rfl)) (.cons (.str nm) (.cons (.int _ _) .nil))) ⟨(fun b b' h=>by cases h),(fun b c b' h=>by cases h)⟩ (Nat.zero_le _) (fun b b' h=>by cases h) e e0;cases v1;exact e
theorem c18 {a:Option Addr}{en:Nat}{gs:List TG}(S:SlW 3 h a gs.length en fun j=>(gs.getD j default).cs)(hn:gs.length<=1000){key:List Value}(hkey:KeyOk key)(nm:ByteArray)(hnm:nm.size<1000000000){acc rnd:Int}(hr:rnd<=9223372036854775807)(per oc oz:Bool)(un:ByteArray)(hlim:lim<=h.length) :
  PostV (evI E lim (.func 18) [.agg #[.slice a gs.length en,.int .i64 acc,.int .i64 rnd,.bool per,.bool oc,.bool oz,.string un],.string nm,.agg key.toArray] h) fun v h'=>∃(t:TM) (tb:Nat),v=.pointer (some ⟨tb,0,none⟩)/\t.In tb h'/\Agr h h'/\h.length<=tb /\
   t.k=⟨lateV E key nm rnd,acc,0,0,-1,-1,none⟩/\t.act=false/\t.oc=oc/\t.oz=oz/\t.wb=none/\t.xs.map TK.raw=gs.filter (keepG E)/\(∀x∈t.xs,x.base=0/\x.spent=0)/\(∀b,t.rb=some b->tb<b/\∀x∈t.xs,Spx E h' x tb b):=by
 have hE:=C.hE;have gk:∀j,j<gs.length->∃g,gs[j]?=some g/\gs.getD j default=g:=fun j hj=>⟨gs[j],List.getElem?_eq_getElem hj,by rw[List.getD_eq_getElem?_getD,List.getElem?_eq_getElem hj]; rfl⟩;obtain⟨eL,-,-,-,-⟩:=late_is C hkey nm hnm hr;obtain⟨lv,hlv⟩:∃n,lateV E key nm rnd=n:=⟨_,rfl⟩;rw[hlv] at eL ⊢;obtain⟨k0,k1,k2,k3,k4,k5,k6,k7,k8,k9,k10,k11,k12,k13,k14,k15,rfl⟩:=hkey;have x6:∀k,∀q:Prop,(lim<=h.length+k\/q)=True:=fun k q=>by simp; omega
 refine post_fn hE T18 (Nat.le_of_ble_eq_true rfl) ?_;show Post (evK E lim ac18 _ _) _;unfold ac18;refine post_mid hE.mono (fun g W=>(∃l,W=h++l/\l.length=2/\W[h.length]?=some (.cells true [.slice a gs.length en,.int .i64 acc,.int .i64 rnd,.bool per,.bool oc,.bool oz,.string un])/\W[h.length+1]?=some (.cells true [.int .u8 k0,.int .u8 k1,.int .u8 k2,.int .u8 k3,.int .u8 k4,.int .u8 k5,.int .u8 k6,.int .u8 k7,.int .u8 k8,.int .u8 k9,.int .u8 k10,.int .u8 k11,.int .u8 k12,.int .u8 k13,.int .u8 k14,.int .u8 k15]))/\g.rd 1=.string nm/\g.rd 3=.pointer (some ⟨h.length,0,none⟩)/\g.rd 5=.pointer (some ⟨h.length+1,0,none⟩)) ?_ ?_
 ·simp only[push_cast,simprocAttr];exact⟨_,rfl,rfl⟩
 rintro g W ⟨⟨l,rfl,hl,w0,w1⟩,g1,g3,g5⟩
 have u1:(un==un)=true:=by
  cases un with
  | mk d =>
   show(d==d)=true;simp
 obtain⟨T0,hT0⟩:∃T0:TM,T0=⟨⟨lv,acc,0,0,-1,-1,none⟩,rnd,per,oc,oz,un,false,0,0,none,[],none,[]⟩:=⟨_,rfl⟩;refine post_mid hE.mono (fun g W=>h++l++[.cells true (T0.csV (.slice a gs.length en))]=W/\g.rd 3=.pointer (some ⟨h.length,0,none⟩)/\g.rd 7=.pointer (some ⟨h.length+2,0,none⟩)) ?_ ?_
 ·subst hT0;simp only[TM.csV,rv_none,zv];simp only[push_cast,g1,g3,g5,w0,w1,eL,sureL,hl,u1,simprocAttr]
 clear g1 g3 g5 g;rintro g W ⟨rfl,g3,g7⟩;obtain⟨tb,htb⟩:∃tb,tb=h.length+2:=⟨_,rfl⟩;rw[<- htb] at g7;have f0:∀Y:Hp,(h++(l++Y))[h.length]?=some (.cells true [.slice a gs.length en,.int .i64 acc,.int .i64 rnd,.bool per,.bool oc,.bool oz,.string un]):=fun Y=>by rw[<- List.append_assoc]; exact get_old w0
 refine post_mid hE.mono (fun g X=>∃(xs:List TK) (rb:Option Nat),X[tb]?=some (.cells true (({ T0 with rb:=rb,xs:=xs }:TM).csV (.slice a gs.length en)))/\(match rb with | none=>xs=[] | some b=>tb<b/\X[b]?=some (.cells true (tks xs)))/\(∀x∈xs,x.base=0/\x.spent=0)/\(∀b,rb=some b->∀x∈xs,Spx E X x tb b)/\xs.map TK.raw=gs.filter (keepG E)/\(∀j,j<h.length->X[j]?=h[j]?)/\tb<X.length/\g.rd 7=.pointer (some ⟨tb,0,none⟩)) ?_ ?_
 ·simp only[push_cast,g3,g7,f0,simprocAttr];refine loop_post hE.mono (fun q g X=>∃(i:Nat) (xs:List TK) (rb:Option Nat),i<=gs.length/\X[tb]?=some (.cells true (({ T0 with rb:=rb,xs:=xs }:TM).csV (.slice a gs.length en)))/\(match rb with | none=>xs=[] | some b=>tb<b/\X[b]?=some (.cells true (tks xs)))/\(∀x∈xs,x.base=0/\x.spent=0)/\(∀b,rb=some b->∀x∈xs,Spx E X x tb b)/\xs.map TK.raw=(gs.take i).filter (keepG E)/\(∀j,j<h.length->X[j]?=h[j]?)/\tb<X.length/\g.rd 7=.pointer (some ⟨tb,0,none⟩)/\g.rd 22=.slice a gs.length en/\g.rd 23=.int .i64 gs.length/\g.rd 24=.int .i64 i/\gs.length-i=q) ?_ gs.length _ _ ⟨0,[],none,Nat.zero_le _,?_,rfl,(fun x hx=>nomatch hx),(fun b hb=>nomatch hb),rfl,fun j hj=>get_lt hj,by simp; omega,by simp[g7],by simp,by simp,by first | rfl | (simp only[push_cast,simprocAttr]; rfl) | simp only[push_cast,simprocAttr],rfl⟩
  ·clear g3 g7 g;rintro q g X ⟨i,xs,rb,hi,xb,xr,x0,xS,xk,xo,xl,g7,g22,g23,g24,hq⟩
   by_cases hlt:(i:Int)<gs.length
   ·have hi':i<gs.length:=by omega
    obtain⟨gg,hg1,hg2⟩:=gk i hi'
    have xsl:xs.length<=1000:=by
     have:=congrArg List.length xk;rw[List.length_map] at this;have h2:=List.length_filter_le (keepG E) (gs.take i);simp at h2;omega
    rcases S with⟨s1,s2,s3⟩ | ⟨b0,o,own,cs,rfl,rfl,s3,s4,s5⟩
    ·omega
    have a3:(cs.drop (o+i*3)).take 3=gg.cs:=by rw[s5 i hi']; exact congrArg TG.cs hg2
    have a4:(o+i*3+3<=cs.length)=True:=eq_true (by omega);have a2:(0<=(i:Int))=True:=by simp
    have a8:=wn1 (i:=i);have x3:=(xo b0 (lt_of_get s3)).trans s3;simp only[TG.cs] at a3;have y6:∀k,∀q:Prop,(lim<=X.length+k\/q)=True:=fun k q=>by simp; omega
    have y60:∀q:Prop,(lim<=X.length\/q)=True:=fun q=>by simp; omega
    obtain⟨v,h1,e16,s,rfl,A,sI,sB,sO⟩:=(parse_is C (lim:=lim) (h:=X++[.cells true gg.cs]) gg.text (by simp; omega)).out;have Al:=A.le;have Al':X.length+1<=h1.length:=by simpa using Al
    have x1:∀j,j<X.length->h1[j]?=X[j]?:=fun j hj=>by rw[eqAgr A (by simp; omega),get_lt hj]
    have z0:h1[X.length]?=some (.cells true gg.cs):=A _ _ get_app0;have z1:∀l,(h1++l)[X.length]?=some (.cells true gg.cs):=fun l=>get_old z0;have z2:∀q:Prop,(lim<=h1.length\/q)=True:=fun q=>by simp; omega
    have t_len:(gs.take (i+1)).filter (keepG E)=(gs.take i).filter (keepG E)++(if keepG E gg=true then[gg] else[]):=by
     rw[List.take_add_one,hg1,List.filter_append]
     congr 1
     simp only[Option.toList,List.filter_cons,List.filter_nil]
    have hbX:=lt_of_get xb;have tb1:=(x1 tb hbX).trans xb;have tb2:∀l,(h1++l)[tb]?=some (.cells true (({ T0 with rb:=rb,xs:=xs }:TM).csV (.slice (some ⟨b0,o,none⟩) gs.length 3))):=fun l=>get_old tb1;have e16o:=e16;simp only[TG.cs] at e16 z0 z1;simp only[SD.cv] at e16;have skip:keepG E gg=false->xs.map TK.raw=(gs.take (i+1)).filter (keepG E):=fun hk=>by rw[t_len,hk]; simpa using xk
    have fin1:∀Y,(∀j,j<X.length->Y[j]?=X[j]?)->(match rb with | none=>xs=[] | some b=>tb<b/\Y[b]?=some (.cells true (tks xs)))/\(∀b,rb=some b->∀x∈xs,Spx E Y x tb b):=fun Y hY=>by
     refine⟨?_,fun b hb x hx=>(xS b hb x hx).of (fun j j1 j2=>hY j ?_) (Nat.le_refl _)⟩
     ·cases rb with
      | none=>exact xr
      | some b=>exact⟨xr.1,(hY b (lt_of_get xr.2)).trans xr.2⟩
     ·rw[hb] at xr;have:=lt_of_get xr.2;omega
    cases hkk:(gg.kind==1)&&!(parseE E gg.text==0) with
    | true =>
     have hk1:(gg.kind==1)=true:=by simp only[Bool.and_eq_true] at hkk; exact hkk.1
     have hk2:(parseE E gg.text==0)=false:=by simp only[Bool.and_eq_true,Bool.not_eq_true'] at hkk; exact hkk.2
     have hkeep:keepG E gg=false:=by unfold keepG; rw[hk1,hk2]; rfl
     simp only[push_cast,lp18_0,g7,g22,g23,g24,hlt,a2,a3,a4,a8,x3,y6,y60,e16,z1,z2,hk1,hk2,simprocAttr];obtain⟨q1,q2⟩:=fin1 (h1++[.cells true s.cv]) (fun j hj=>by rw[get_lt (by omega)]; exact x1 j hj);exact⟨_,(by omega:gs.length-(i+1)<q),i+1,xs,rb,by omega,tb2 _,q1,x0,q2,skip hkeep,fun j hj=>by rw[get_lt (by omega),x1 j (by omega)]; exact xo j hj,by first | omega | (simp; omega),rfl,rfl⟩
    | false =>
     have hkeep:keepG E gg=true:=by
      unfold keepG;cases h1:(gg.kind==1) with
      | false=>rfl
      | true=>rw[h1] at hkk; simpa using hkk
     have tl2:(xs++[(⟨gg.kind,gg.span,gg.text,s,0,0⟩:TK)]).map TK.raw=(gs.take (i+1)).filter (keepG E):=by rw[t_len,hkeep,List.map_append,xk]; rfl
     have tks_app:tks xs++TK.cs ⟨gg.kind,gg.span,gg.text,s,0,0⟩=tks (xs++[(⟨gg.kind,gg.span,gg.text,s,0,0⟩:TK)]):=by simp[tks]
     simp only[TK.cs] at tks_app
     have spx:∀Y,(∀j,X.length<j->j<h1.length->Y[j]?=h1[j]?)->Spx E Y ⟨gg.kind,gg.span,gg.text,s,0,0⟩ tb (h1.length+2):=fun Y hY=>by
      refine⟨X.length+1,h1.length,⟨lim,_,h1,parseE E gg.text,e16o,by simp; omega,by simp,rfl,fun j j1 j2=>hY j (by omega) j2⟩,sI.on sO fun j j1 j2=>hY j (by simp at j1; omega) j2,sB,by have:=sO; simpa using this,by show tb<X.length+1; omega,by omega⟩
     have fin2:∀Y,(∀j,X.length<j->j<h1.length->Y[j]?=h1[j]?)->(∀b,rb=some b->∀x∈xs,Spx E X x tb b)->(∀j,tb<j->j<X.length->rb≠some j->Y[j]?=X[j]?)->∀b,some (h1.length+2)=some b->∀x∈xs++[⟨gg.kind,gg.span,gg.text,s,0,0⟩],Spx E Y x tb b:=fun Y y1 y2 y3 b hb x hx=>by
      cases hb;rcases List.mem_append.1 hx with hx | hx
      ·cases hrb:rb with
       | none=>rw[hrb] at xr; rw[xr] at hx; cases hx
       | some b =>
        rw[hrb] at xr;have:=lt_of_get xr.2;exact(y2 b hrb x hx).of (fun j j1 j2=>y3 j j1 (by omega) (fun e=>by rw[hrb] at e; cases e; omega)) (by omega)
      ·rw[List.mem_singleton.1 hx];exact spx Y y1
     have x0':∀x∈xs++[(⟨gg.kind,gg.span,gg.text,s,0,0⟩:TK)],x.base=0/\x.spent=0:=fun x hx=>by
      rcases List.mem_append.1 hx with hx | hx
      ·exact x0 x hx
      ·rw[List.mem_singleton.1 hx]; exact⟨rfl,rfl⟩
     have xt:∀q:Prop,(lim<=tb\/q)=True:=fun q=>by simp; omega
     have tbl:tb<h1.length:=by omega
     have gd:((gg.kind==1)=false/\True)\/((gg.kind==1)=true/\(parseE E gg.text==0)=true):=by
      cases h1:(gg.kind==1) with
      | false=>exact .inl ⟨rfl,trivial⟩
      | true=>rw[h1] at hkk; exact .inr ⟨rfl,by simpa using hkk⟩
     rcases gd with⟨hk1,-⟩ | ⟨hk1,hk2⟩
     ·cases rb with
      | none =>
       have xs0:xs=[]:=xr;simp only[TM.csV,rv_none] at tb2;have r6:∀l z,(h1++l).set tb z=h1.set tb z++l:=fun l z=>set_old tbl;simp only[push_cast,lp18_0,g7,g22,g23,g24,hlt,a2,a3,a4,a8,x3,y6,y60,e16,z1,z2,srcOf,xt,hk1,tb2,r6,simprocAttr];refine⟨_,(by omega:gs.length-(i+1)<q),i+1,xs++[⟨gg.kind,gg.span,gg.text,s,0,0⟩],some (h1.length+2),by omega,?_,⟨by omega,?_⟩,x0',fin2 _ (fun j j1 j2=>by rw[get_lt (by simpa using j2),set_ne (by omega)]) xS (fun j j1 j2 _=>by rw[get_lt (by simp; omega),set_ne (by omega)]; exact x1 j j2),tl2,fun j hj=>by rw[get_lt (by simp; omega),set_ne (by omega),x1 j (by omega)]; exact xo j hj,by first | omega | (simp; omega),rfl,rfl⟩
       ·rw[get_lt (by simpa using tbl),set_get tbl,xs0]; rfl
       ·rw[get_appC (n:=h1.length) (k:=2) (by simp),xs0]; rfl
      | some b =>
       obtain⟨r1,r2⟩:=xr;have lbX:=lt_of_get r2;have q2:=(x1 b lbX).trans r2;have lb1:b<h1.length:=by omega
       simp only[TM.csV,rv_some] at tb2;have k1:∀l,(h1++l)[b]?=some (.cells true (tks xs)):=fun l=>get_old q2;have k2:∀l y,(h1++l).set b y=h1.set b y++l:=fun l y=>set_old lb1;have tb3:=tb2 [];rw[List.append_nil] at tb3;have k4:∀y l,(h1.set b y++l)[tb]?=h1[tb]?:=fun y l=>by rw[get_lt (by simpa using tbl),set_ne (by omega)]
       have k5:∀y l z,(h1.set b y++l).set tb z=(h1.set b y).set tb z++l:=fun y l z=>set_old (by simpa using tbl);have k9:(xs.length*14=(tks xs).length)=True:=eq_true (tks_len xs).symm;have k10:((xs.length+1)*216<=140737488355328)=True:=eq_true (by omega);simp only[push_cast,lp18_0,g7,g22,g23,g24,hlt,a2,a3,a4,a8,x3,y6,y60,e16,z1,z2,srcOf,xt,hk1,tb2,tb3,k1,k2,k4,k5,k9,k10,tks_app,simprocAttr];refine⟨_,(by omega:gs.length-(i+1)<q),i+1,xs++[⟨gg.kind,gg.span,gg.text,s,0,0⟩],some (h1.length+2),by omega,?_,⟨by omega,?_⟩,x0',fin2 _ (fun j j1 j2=>by rw[get_lt (by simpa using j2),set_ne (by omega),set_ne (by omega)]) xS (fun j j1 j2 j3=>by rw[get_lt (by simp; omega),set_ne (by omega),set_ne (fun e=>j3 (by rw[e]))]; exact x1 j j2),tl2,fun j hj=>by rw[get_lt (by simp; omega),set_ne (by omega),set_ne (by omega),x1 j (by omega)]; exact xo j hj,by first | omega | (simp; omega),rfl,rfl⟩
       ·rw[get_lt (by simpa using tbl),set_get (by simpa using tbl)]; simp[TM.csV,rv]
       ·rw[get_appC (n:=h1.length) (k:=2) (by simp)]; simp[tks]
     ·cases rb with
      | none =>
       have xs0:xs=[]:=xr;simp only[TM.csV,rv_none] at tb2;have r6:∀l z,(h1++l).set tb z=h1.set tb z++l:=fun l z=>set_old tbl;simp only[push_cast,lp18_0,g7,g22,g23,g24,hlt,a2,a3,a4,a8,x3,y6,y60,e16,z1,z2,srcOf,xt,hk1,hk2,tb2,r6,simprocAttr];refine⟨_,(by omega:gs.length-(i+1)<q),i+1,xs++[⟨gg.kind,gg.span,gg.text,s,0,0⟩],some (h1.length+2),by omega,?_,⟨by omega,?_⟩,x0',fin2 _ (fun j j1 j2=>by rw[get_lt (by simpa using j2),set_ne (by omega)]) xS (fun j j1 j2 _=>by rw[get_lt (by simp; omega),set_ne (by omega)]; exact x1 j j2),tl2,fun j hj=>by rw[get_lt (by simp; omega),set_ne (by omega),x1 j (by omega)]; exact xo j hj,by first | omega | (simp; omega),rfl,rfl⟩
       ·rw[get_lt (by simpa using tbl),set_get tbl,xs0]; rfl
       ·rw[get_appC (n:=h1.length) (k:=2) (by simp),xs0]; rfl
      | some b =>
       obtain⟨r1,r2⟩:=xr;have lbX:=lt_of_get r2;have q2:=(x1 b lbX).trans r2;have lb1:b<h1.length:=by omega
       simp only[TM.csV,rv_some] at tb2;have k1:∀l,(h1++l)[b]?=some (.cells true (tks xs)):=fun l=>get_old q2;have k2:∀l y,(h1++l).set b y=h1.set b y++l:=fun l y=>set_old lb1;have tb3:=tb2 [];rw[List.append_nil] at tb3;have k4:∀y l,(h1.set b y++l)[tb]?=h1[tb]?:=fun y l=>by rw[get_lt (by simpa using tbl),set_ne (by omega)]
       have k5:∀y l z,(h1.set b y++l).set tb z=(h1.set b y).set tb z++l:=fun y l z=>set_old (by simpa using tbl);have k9:(xs.length*14=(tks xs).length)=True:=eq_true (tks_len xs).symm;have k10:((xs.length+1)*216<=140737488355328)=True:=eq_true (by omega);simp only[push_cast,lp18_0,g7,g22,g23,g24,hlt,a2,a3,a4,a8,x3,y6,y60,e16,z1,z2,srcOf,xt,hk1,hk2,tb2,tb3,k1,k2,k4,k5,k9,k10,tks_app,simprocAttr];refine⟨_,(by omega:gs.length-(i+1)<q),i+1,xs++[⟨gg.kind,gg.span,gg.text,s,0,0⟩],some (h1.length+2),by omega,?_,⟨by omega,?_⟩,x0',fin2 _ (fun j j1 j2=>by rw[get_lt (by simpa using j2),set_ne (by omega),set_ne (by omega)]) xS (fun j j1 j2 j3=>by rw[get_lt (by simp; omega),set_ne (by omega),set_ne (fun e=>j3 (by rw[e]))]; exact x1 j j2),tl2,fun j hj=>by rw[get_lt (by simp; omega),set_ne (by omega),set_ne (by omega),x1 j (by omega)]; exact xo j hj,by first | omega | (simp; omega),rfl,rfl⟩
       ·rw[get_lt (by simpa using tbl),set_get (by simpa using tbl)]; simp[TM.csV,rv]
       ·rw[get_appC (n:=h1.length) (k:=2) (by simp)]; simp[tks]
   ·simp only[push_cast,lp18_0,g23,g24,hlt,simprocAttr];have:i=gs.length:=by omega
    subst this;rw[List.take_length] at xk;exact⟨xs,rb,xb,xr,x0,xS,xk,xo,xl,by simp[g7]⟩
  ·rw[hT0,htb];rw[show h++(l++[Blk.cells true (TM.csV (.slice a gs.length en) ⟨⟨lv,acc,0,0,-1,-1,none⟩,rnd,per,oc,oz,un,false,0,0,none,[],none,[]⟩)])=(h++l)++[Blk.cells true (TM.csV (.slice a gs.length en) ⟨⟨lv,acc,0,0,-1,-1,none⟩,rnd,per,oc,oz,un,false,0,0,none,[],none,[]⟩)] by simp];exact get_appC0 (by simp[hl])
 clear g3 g7 g f0;rintro g X ⟨xs,rb,xb,xr,x0,xS,xk,xo,xl,g7⟩;have lb:=lt_of_get xb;have xb':=xb;simp only[TM.csV] at xb'
 have xsl:xs.length<=1000:=by
  have:=congrArg List.length xk;rw[List.length_map] at this;have h2:=List.length_filter_le (keepG E) gs;omega
 simp only[push_cast,g7,xb',simprocAttr];refine⟨{ T0 with rb:=rb,xs:=xs },tb,rfl,⟨?_,?_,?_,xsl,by rw[hT0]; simp⟩,fun j k e=>?_,by omega,by rw[hT0],by rw[hT0],by rw[hT0],by rw[hT0],by rw[hT0],xk,x0,fun b hb=>⟨?_,fun x hx=>?_⟩⟩
 ·rw[set_get lb]; rfl
 ·cases rb with
  | none=>exact xr
  | some b=>exact⟨by omega,by rw[set_ne (by omega)]; exact xr.2⟩
 ·rw[hT0]
 ·have:=lt_of_get e;rw[set_ne (by omega),xo j this]; exact e
 ·cases hb; exact xr.1
 ·exact(xS b hb x hx).of (fun j j1 j2=>set_ne (by omega)) (Nat.le_refl _)
end
section
open Tb
structure CD where
 ta:Option Addr
 te:Nat
 gs:List TG
 acc:Int
 rnd:Int
 per:Bool
 oc:Bool
 oz:Bool
 un:ByteArray
 nm:ByteArray
 k:Nat->Int
 z:ZD
def CD.key (c:CD):List Value:=[.int .u8 (c.k 0),.int .u8 (c.k 1),.int .u8 (c.k 2),.int .u8 (c.k 3),.int .u8 (c.k 4),.int .u8 (c.k 5),.int .u8 (c.k 6),.int .u8 (c.k 7),.int .u8 (c.k 8),.int .u8 (c.k 9),.int .u8 (c.k 10),.int .u8 (c.k 11),.int .u8 (c.k 12),.int .u8 (c.k 13),.int .u8 (c.k 14),.int .u8 (c.k 15)]
theorem CD.keyOk (c:CD):KeyOk c.key:=⟨_,_,_,_,_,_,_,_,_,_,_,_,_,_,_,_,rfl⟩
def CD.cs (c:CD):List Value:=[.slice c.ta c.gs.length c.te,.int .i64 c.acc,.int .i64 c.rnd,.bool c.per,.bool c.oc,.bool c.oz,.string c.un,.string c.nm,.int .u8 (c.k 0),.int .u8 (c.k 1),.int .u8 (c.k 2),.int .u8 (c.k 3),.int .u8 (c.k 4),.int .u8 (c.k 5),.int .u8 (c.k 6),.int .u8 (c.k 7),.int .u8 (c.k 8),.int .u8 (c.k 9),.int .u8 (c.k 10),.int .u8 (c.k 11),.int .u8 (c.k 12),.int .u8 (c.k 13),.int .u8 (c.k 14),.int .u8 (c.k 15),
 .slice c.z.ta c.z.tn c.z.te,.slice c.z.ma c.z.mn c.z.me,.slice c.z.xa c.z.xn c.z.xe,.string c.z.ft]
structure CD.In (c:CD)(h:Hp):Prop where
 row:SlW 3 h c.ta c.gs.length c.te fun j=>(c.gs.getD j default).cs
 zin:c.z.In h
 n:c.gs.length<1000000000000
 acc:i64r c.acc
 rnd:i64r c.rnd
 span:∀g∈c.gs,i64r g.span
theorem CD.In.grow {c:CD}{h:Hp}(H:c.In h)(l:Hp):c.In (h++l):=⟨H.row.grow,H.zin.grow,H.n,H.acc,H.rnd,H.span⟩
theorem CD.In.agr {c:CD}{h X:Hp}(H:c.In h)(A:Agr h X):c.In X:=by
 obtain⟨l,rfl⟩:=A.out;exact H.grow l
variable {E:Env}(C:Conds E){lim:Nat}{h H0:Hp}{F:Nat->Prop}
include C
theorem c15 {c:CD}(H:c.In h)(hlim:lim<=h.length):PostV (evI E lim (.func 15) [.agg c.cs.toArray] h) fun v h'=>∃(Z:Option ZN) (ok:Bool),v=.tuple #[zv Z,.bool ok]/\Agr h h'/\zin Z h'/\∀Y,Z=some Y->Y.New h.length/\Y.Shut h':=by
 have hE:=C.hE;cases h0:((c.z.tn:Int)==0) with
 | true =>
  rw[hE.fn T15]; simp only[push_cast,ac15,CD.cs,h0,simprocAttr];exact⟨none,true,rfl,Agr.app _ _,(fun Y hY=>by cases hY),fun Y hY=>by cases hY⟩
 | false =>
  by_cases h1:(c.z.tn:Int)>20
  ·rw[hE.fn T15]; simp only[push_cast,ac15,CD.cs,h0,h1,simprocAttr];exact⟨none,false,rfl,Agr.app _ _,(fun Y hY=>by cases hY),fun Y hY=>by cases hY⟩
  ·by_cases h2:(c.z.mn:Int)>60
   ·rw[hE.fn T15]; simp only[push_cast,ac15,CD.cs,h0,h1,h2,simprocAttr];exact⟨none,false,rfl,Agr.app _ _,(fun Y hY=>by cases hY),fun Y hY=>by cases hY⟩
   ·obtain⟨v,h',e37,Z,e,rfl,A,zi,ze,zn⟩:=(c37 hE C.hA (lim:=lim) (h:=h++[.cells true c.cs]) H.zin.grow (by simp; omega)).out;obtain⟨p,hp⟩:=zv_ptr Z;rw[hp] at e37;simp only[CD.cs] at e37;rw[hE.fn T15]; simp only[push_cast,ac15,CD.cs,h0,h1,h2,e37,simprocAttr];refine⟨Z,(e==0),by rw[hp],(Agr.app _ _).trans A,zi,fun Y hY=>⟨?_,(zn Y hY).2⟩⟩;obtain⟨a1,a2,a3,a4,a5⟩:=(zn Y hY).1;have e1:(h++[Blk.cells true c.cs]).length=h.length+1:=by simp
    rw[e1] at a1 a2 a3 a4 a5;exact⟨by omega,fun R hR=>by have:=a2 R hR; omega,fun A hA=>by have:=a3 A hA; omega,fun A hA=>by have:=a4 A hA; omega,fun A hA=>by have:=a5 A hA; omega⟩
theorem c23 {c:CD}(H:c.In h)(a:Option Addr)(n e:Nat):∃r,evI E lim (.func 23) [.agg c.cs.toArray,.slice a n e] h=some (.bool r,h)/\(r=true->c.gs.length<=12/\c.nm.size<=100/\n<=40):=by
 have hE:=C.hE
 suffices hh:PostV (evI E lim (.func 23) [.agg c.cs.toArray,.slice a n e] h) fun v h'=>h'=h/\∃r,v=.bool r/\(r=true->c.gs.length<=12/\c.nm.size<=100/\n<=40) by
  obtain⟨v,h',e,rfl,r,rfl,hr⟩:=hh.out;exact⟨r,e,hr⟩
 rw[hE.fn T23]; simp only[push_cast,ac23,CD.cs,simprocAttr];refine loop_post hE.mono (fun q g X=>∃i:Nat,i<=c.gs.length/\X=h++[.cells true c.cs]/\g.rd 1=.slice a n e/\g.rd 2=.pointer (some ⟨h.length,0,none⟩)/\g.rd 5=.int .i64 i/\c.gs.length-i=q) ?_ c.gs.length _ _ ⟨0,Nat.zero_le _,rfl,rfl,rfl,rfl,rfl⟩;rintro q g X ⟨i,hi,rfl,g1,g2,g5,hq⟩;have hn:=H.n;have hX:(h++[Blk.cells true c.cs])[h.length]?=some (.cells true c.cs):=get_app0
 by_cases hlt:(i:Int)<c.gs.length
 ·have hi':i<c.gs.length:=by omega
  have a8:=wn1 (i:=i);have a2:(0<=(i:Int))=True:=by simp
  rcases H.row with⟨s1,s2,s3⟩ | ⟨b0,o,own,cs,s1,s2,s3,s4,s5⟩
  ·omega
  ·have q3:=take3_get (s5 i hi');have a3:=q3.2.2;have a4:∀l,(h++l)[b0]?=some (.cells own cs):=fun l=>get_old s3;generalize c.gs.getD i default=gg at *;simp only[CD.cs,s1,s2] at hX ⊢
   by_cases h2:(gg.text.size:Int)>200
   ·simp only[push_cast,lp23_0,g1,g2,g5,hX,hlt,a2,a3,a4,h2,simprocAttr];exact⟨false,rfl,fun h=>by cases h⟩
   ·simp only[push_cast,lp23_0,g1,g2,g5,hX,hlt,a2,a3,a4,a8,h2,simprocAttr];exact⟨_,(by omega:c.gs.length-(i+1)<q),i+1,by omega,rfl,rfl⟩
 ·simp only[CD.cs] at hX ⊢
  by_cases h1:(c.gs.length:Int)<=12
  ·by_cases h2:(c.nm.size:Int)<=100
   ·simp only[push_cast,lp23_0,g1,g2,g5,hX,hlt,h1,h2,simprocAttr];exact⟨_,rfl,fun h=>by simp only[decide_eq_true_eq] at h; omega⟩
   ·simp only[push_cast,lp23_0,g1,g2,g5,hX,hlt,h1,h2,simprocAttr];exact⟨false,rfl,fun h=>by cases h⟩
  ·simp only[push_cast,lp23_0,g1,g2,g5,hX,hlt,h1,simprocAttr];exact⟨false,rfl,fun h=>by cases h⟩
theorem c25 {a1 a2:Option Addr}{n e1 e2:Nat}{A:List (Bool×Int×Int)}(S1:SlK 3 h a1 n e1 fun j=>wd (A.getD j default))(S2:SlK 3 h a2 n e2 fun j=>wd (A.getD j default))(hn:n<1000000):evI E lim (.func 25) [.slice a1 n e1,.slice a2 n e2] h=some (.bool true,h):=by
 have hE:=C.hE;refine PostV.eq ?_;have e0:((n:Int)==n)=true:=by simp
 rw[hE.fn T25]; simp only[push_cast,ac25,e0,simprocAttr];refine loop_post hE.mono (fun q g X=>∃i:Nat,i<=n/\X=h/\g.rd 0=.slice a1 n e1/\g.rd 1=.slice a2 n e2/\g.rd 5=.int .i64 i/\n-i=q) ?_ n _ _ ⟨0,Nat.zero_le _,rfl,rfl,rfl,rfl,rfl⟩;rintro q g X ⟨i,hi,rfl,g0,g1,g5,hq⟩
 by_cases hlt:(i:Int)<n
 ·have hi':i<n:=by omega
  have a8:=wn1 (i:=i);have a2:(0<=(i:Int))=True:=by simp
  obtain⟨b,o,own,cs,rfl,rfl,s3,s4,s5⟩:=S1 (by omega);obtain⟨b',o',own',cs',rfl,rfl,t3,t4,t5⟩:=S2 (by omega);have u1:=s5 i hi';have u2:=t5 i hi';have m1:=mul_le_in (k:=3) hi';have u3:(o+i*3+3<=cs.length)=True:=eq_true (by omega);have u4:(o'+i*3+3<=cs'.length)=True:=eq_true (by omega);simp only[wd] at u1 u2;generalize A.getD i default=w at *
  have ew:eqV true [.bool,.int .i64,.int .i64] (.agg #[.bool w.1,.int .i64 w.2.1,.int .i64 w.2.2]) (.agg #[.bool w.1,.int .i64 w.2.1,.int .i64 w.2.2])=some true:=by
   show some ((w.1==w.1)&&((w.2.1==w.2.1)&&((w.2.2==w.2.2)&&true)))=some true;simp
  simp only[push_cast,lp25_0,g0,g1,g5,hlt,a2,a8,u1,u2,u3,u4,s3,t3,ew,simprocAttr];exact⟨_,(by omega:n-(i+1)<q),i+1,by omega,rfl,rfl⟩
 ·simp only[push_cast,lp25_0,g0,g1,g5,hlt,simprocAttr]
end
section
open Tb
theorem TM.In.of {t:TM}{tb:Nat}{h X:Hp}(T:t.In tb h)(hX:∀j,j<h.length->X[j]?=h[j]?):t.In tb X:=by
 refine⟨(hX _ (lt_of_get T.blk)).trans T.blk,?_,?_,T.n,T.m⟩
 ·have:=T.row;cases hrb:t.rb with
  | none=>rw[hrb] at this; exact this
  | some b=>rw[hrb] at this; exact⟨this.1,(hX _ (lt_of_get this.2)).trans this.2⟩
 ·have:=T.wai;cases hwb:t.wb with
  | none=>rw[hwb] at this; exact this
  | some b=>rw[hwb] at this; exact⟨this.1,this.2.1,(hX _ (lt_of_get this.2.2)).trans this.2.2⟩
theorem TM.In.grow {t:TM}{tb:Nat}{h:Hp}(T:t.In tb h)(l:Hp):t.In tb (h++l):=T.of fun j hj=>get_lt hj
instance (n:Int):Decidable (i64r n):=inferInstanceAs (Decidable (_/\_))
theorem Ctx.nil (h:Hp):Ctx [] (fun _=>False) h:=⟨fun j hj=>hj.elim,fun j hj=>hj.elim⟩
theorem due3 {E:Env}{H0:Hp}{k:KN}{x:TK}(h1:x.kind=3)(h2:x.span=5):dueK E H0 k x=if x.spent<5 then some (false,5) else none:=by
 unfold dueK dueF begF;rw[h1,h2]
 by_cases hs:x.spent<5
 ·simp[hs,fits];omega
 ·simp[hs,fits]
variable {E:Env}(C:Conds E){lim:Nat}{h H0:Hp}{F:Nat->Prop}
include C
theorem c17:evI E lim (.func 17) [] h=some (.bool true,h):=by
 have hE:=C.hE;refine PostV.eq ?_;obtain⟨v,h1,e18,t,tb,rfl,T,A,tbl,tk,ta,-,-,tw,tr,t0,tS⟩:=(c18 C (lim:=h.length) (h:=h++[.cells true [.int .u8 3,.int .i64 5,.string ⟨#[]⟩]]) (a:=some ⟨h.length,0,none⟩) (en:=3) (gs:=[⟨3,5,⟨#[]⟩⟩]) (.inr ⟨h.length,0,true,_,rfl,rfl,get_app0,by decide,fun j hj=>by obtain rfl:j=0:=(by simpa using hj); rfl⟩) (by decide) (key:=[.int .u8 0,.int .u8 0,.int .u8 0,.int .u8 0,.int .u8 0,.int .u8 0,.int .u8 0,.int .u8 0,.int .u8 0,.int .u8 0,.int .u8 0,.int .u8 0,.int .u8 0,.int .u8 0,.int .u8 0,.int .u8 0]) ⟨_,_,_,_,_,_,_,_,_,_,_,_,_,_,_,_,rfl⟩ ⟨#[97,46,116,105,109,101,114]⟩ (by decide) (acc:=3) (rnd:=0) (by decide) false false false ⟨#[]⟩ (by simp)).out;have hlate:=late_is C (key:=[.int .u8 0,.int .u8 0,.int .u8 0,.int .u8 0,.int .u8 0,.int .u8 0,.int .u8 0,.int .u8 0,.int .u8 0,.int .u8 0,.int .u8 0,.int .u8 0,.int .u8 0,.int .u8 0,.int .u8 0,.int .u8 0]) ⟨_,_,_,_,_,_,_,_,_,_,_,_,_,_,_,_,rfl⟩ ⟨#[97,46,116,105,109,101,114]⟩ (by decide) (r:=0) (by decide);rw[hlate.2.2.2.2 (by decide)] at tk;have tr':t.xs.map TK.raw=[⟨3,5,⟨#[]⟩⟩]:=by rw[tr]; rfl
 obtain⟨x,hx⟩:∃x,t.xs=[x]:=by
  cases hx:t.xs with
  | nil=>rw[hx] at tr'; cases tr'
  | cons x l =>
   cases l with
   | nil=>exact⟨x,rfl⟩
   | cons y l=>rw[hx] at tr'; simp at tr'
 rw[hx] at tr';have x1:x.kind=3:=by have:=tr'; simp[TK.raw] at this; exact this.1
 have x2:x.span=5:=by have:=tr'; simp[TK.raw] at this; exact this.2.1
 have Al:h.length+1<=h1.length:=by have:=A.le; simpa using this
 obtain⟨v,h2,e20,rfl,T2,o2,l2⟩:=(c20 C (lim:=h.length) T ta (by simp at tbl; omega) 0 2 0 0 (-1) none).out;obtain⟨t2,ht2⟩:∃t2,t2=t.start 0 2 0 (-1) none:=⟨_,rfl⟩;rw[<- ht2] at T2;have k2:t2.k=⟨0,3,0,2,-1,-1,none⟩:=by rw[ht2]; simp[TM.start,tk]
 have a2:t2.act=true:=by rw[ht2]; rfl
 have xs2:t2.xs=[startX 0 (-1) x]:=by rw[ht2]; simp[TM.start,hx]
 have w2:t2.wb=none/\t2.ws=[]:=by rw[ht2]; exact⟨rfl,rfl⟩
 have hk:t2.k.Ok:=by rw[k2]; exact⟨by decide,by decide,by decide,by decide,by decide,by decide⟩
 have ok2:∀y∈t2.xs,y.Ok/\AskF E [] (fun _=>False) t2.k.z y:=fun y hy=>by
  rw[xs2,List.mem_singleton] at hy;subst hy;exact⟨⟨by show i64r x.span; rw[x2]; decide,by show i64r 0; decide,by show i64r (-1); decide⟩,fun h=>by have:x.kind=1:=h; omega⟩
 have win2:winL E [] t2=[(false,5,8)]:=by
  unfold winL;rw[xs2,w2.2];simp only[List.filterMap_cons,List.filterMap_nil,winK];rw[due3 (x:=startX 0 (-1) x) x1 x2,k2];rfl
 obtain⟨v,h3,e24,fb,rfl,W3,o3,l3⟩:=(c24 C (lim:=h.length) T2 hk ok2 (Ctx.nil _) a2 (by omega)).out;rw[win2] at e24 W3;cases fb with
 | none=>cases W3
 | some b =>
 obtain⟨b1,b2⟩:=W3;have T3:=T2.of o3;obtain⟨v,h4,e22,rfl,l4,T4,o4⟩:=(c22 C (lim:=h.length) T3 hk ok2 (Ctx.nil _) id (fun _ _=>id) a2 0 4).out
 have f4:(firedL E [] t2 0 4++t2.ws).head?=none:=by
  unfold firedL;rw[xs2,w2.2];simp only[List.filterMap_cons,List.filterMap_nil,elap];rw[due3 (x:=startX 0 (-1) x) x1 x2,k2];rfl
 have xs4:(t2.fire E [] 0 4).xs=[startX 0 (-1) x]:=by
  simp only[TM.fire];rw[xs2];simp only[List.map_cons,List.map_nil,fireX];rw[due3 (x:=startX 0 (-1) x) x1 x2,k2];rfl
 rw[f4] at e22;obtain⟨t4,ht4⟩:∃t4,t4=t2.fire E [] 0 4:=⟨_,rfl⟩;rw[<- ht4] at T4 xs4;have q4:t4.k=t2.k/\t4.act=true/\t4.ws=[]/\t4.rb=t2.rb:=by rw[ht4]; exact⟨rfl,a2,rfl,rfl⟩
 have ok4:∀y∈t4.xs,y.Ok/\AskF E [] (fun _=>False) t4.k.z y:=fun y hy=>by rw[xs4,<- xs2] at hy; rw[q4.1]; exact ok2 y hy
 obtain⟨v,h5,e22b,rfl,l5,T5,o5⟩:=(c22 C (lim:=h.length) (h:=h4++[.cells true [.int .u8 0,.int .i64 0]]) (T4.grow _) (by rw[q4.1]; exact hk) ok4 (Ctx.nil _) id (fun _ _=>id) q4.2.1 0 6).out
 have f5:(firedL E [] t4 0 6++t4.ws).head?=some (3,5):=by
  unfold firedL;rw[xs4,q4.2.2.1];simp only[List.filterMap_cons,List.filterMap_nil,elap];rw[due3 (x:=startX 0 (-1) x) x1 x2,q4.1,k2];have:(startX 0 (-1) x).kind=3:=x1;rw[this];rfl
 have xs5:(t4.fire E [] 0 6).xs=[{ startX 0 (-1) x with spent:=5 }]:=by
  simp only[TM.fire];rw[xs4];simp only[List.map_cons,List.map_nil,fireX];rw[due3 (x:=startX 0 (-1) x) x1 x2,q4.1,k2];rfl
 rw[f5] at e22b;obtain⟨t5,ht5⟩:∃t5,t5=t4.fire E [] 0 6:=⟨_,rfl⟩;rw[<- ht5] at T5 xs5;have q5:t5.k=t2.k/\t5.act=true/\t5.ws=[]/\t5.rb=t2.rb:=by rw[ht5]; exact⟨q4.1,q4.2.1,rfl,q4.2.2.2⟩
 have ok5:∀y∈t5.xs,y.Ok/\AskF E [] (fun _=>False) t5.k.z y:=fun y hy=>by
  rw[xs5,List.mem_singleton] at hy;subst hy;exact⟨⟨by show i64r x.span; rw[x2]; decide,by show i64r 0; decide,by show i64r 5; decide⟩,fun h=>by have:x.kind=1:=h; omega⟩
 obtain⟨v,h6,e22c,rfl,l6,T6,o6⟩:=(c22 C (lim:=h.length) (h:=h5++[.cells true [.int .u8 3,.int .i64 5]]) (T5.grow _) (by rw[q5.1]; exact hk) ok5 (Ctx.nil _) id (fun _ _=>id) q5.2.1 0 7).out;have e5:h5.length=h4.length+1:=by rw[l5]; simp
 have e6:h6.length=h5.length+1:=by rw[l6]; simp
 have hd5:∀k,dueK E [] k { startX 0 (-1) x with spent:=5 }=none:=fun k=>by rw[due3 (x:={ startX 0 (-1) x with spent:=5 }) x1 x2]; rfl
 have f6:(firedL E [] t5 0 7++t5.ws).head?=none:=by
  unfold firedL;rw[xs5,q5.2.2.1];simp only[List.filterMap_cons,List.filterMap_nil,elap,hd5];rfl
 have xs6:(t5.fire E [] 0 7).xs=[{ startX 0 (-1) x with spent:=5 }]:=by
  simp only[TM.fire];rw[xs5];simp only[List.map_cons,List.map_nil,fireX,hd5]
 rw[f6] at e22c;obtain⟨t6,ht6⟩:∃t6,t6=t5.fire E [] 0 7:=⟨_,rfl⟩;rw[<- ht6] at T6 xs6;have q6:t6.k=t2.k/\t6.act=true/\t6.ws=[]/\t6.rb=t2.rb:=by rw[ht6]; exact⟨q5.1,q5.2.1,rfl,q5.2.2.2⟩
 have ok6:∀y∈t6.xs,y.Ok/\AskF E [] (fun _=>False) t6.k.z y:=fun y hy=>by rw[xs6,<- xs5] at hy; rw[q6.1,<- q5.1]; exact ok5 y hy
 have win6:winL E [] t6=[]:=by
  unfold winL;rw[xs6,q6.2.2.1];simp only[List.filterMap_cons,List.filterMap_nil,winK,hd5];rfl
 obtain⟨v,h7,e24b,fb7,rfl,W7,o7,l7⟩:=(c24 C (lim:=h.length) (h:=h6++[.cells true [.int .u8 0,.int .i64 0]]) (T6.grow _) (by rw[q6.1]; exact hk) ok6 (Ctx.nil _) q6.2.1 (by simp; omega)).out;rw[win6] at e24b W7;have rb2:t2.rb=t.rb:=by rw[ht2]; rfl
 have hl1:h.length+1<=tb:=by simpa using tbl
 have ltb:=lt_of_get T2.blk;have e7:h6.length+1<=h7.length:=by simpa using l7
 have lr:∀r,t.rb=some r->tb<r/\r<h2.length:=fun r hr=>⟨(tS r hr).1,by
  have:=T2.row;rw[rb2,hr] at this;exact lt_of_get this.2⟩
 have g6:h6[b]?=some (.cells true [.bool false,.int .i64 5,.int .i64 8]):=by
  have nb:t.rb≠some b:=fun e=>by have:=lr b e; omega
  have lb3:=lt_of_get b2;rw[o6 b (by omega) (by rw[q5.2.2.2,rb2]; exact nb),get_lt (by omega),o5 b (by omega) (by rw[q4.2.2.2,rb2]; exact nb),get_lt (by omega),o4 b (by omega) (by rw[rb2]; exact nb)];exact b2
 have low:∀j,j<h.length->h7[j]?=h[j]?:=fun j hj=>by
  have nb:t.rb≠some j:=fun e=>by have:=lr j e; omega
  rw[o7 j (by simp; omega),get_lt (by omega),o6 j (by omega) (by rw[q5.2.2.2,rb2]; exact nb),get_lt (by omega),o5 j (by omega) (by rw[q4.2.2.2,rb2]; exact nb),get_lt (by omega),o4 j (by omega) (by rw[rb2]; exact nb),o3 j (by omega),o2 j (by omega) (by omega) nb,A j _ (get_old (List.getElem?_eq_getElem hj)),List.getElem?_eq_getElem hj]
 have htk:h7.take h.length=h:=take_ext hE rfl (by omega) low;simp only[fireR,rv_some,zv,List.length_cons,List.length_nil,Nat.zero_add] at e18 e20 e24 e22 e22b e22c e24b;have g6':∀l,(h6++l)[b]?=some (.cells true [.bool false,.int .i64 5,.int .i64 8]):=fun l=>get_old g6;have eqw:eqV true [.int .u8,.int .i64] (.agg #[.int .u8 3,.int .i64 5]) (.agg #[.int .u8 3,.int .i64 5])=some true:=rfl
 have lt6:h6[h5.length]?=some (.cells true [.int .u8 3,.int .i64 5]):=by
  have nb:t.rb≠some h5.length:=fun e=>by have:=lr _ e; omega
  rw[o6 _ (by omega) (by rw[q5.2.2.2,rb2]; exact nb)];exact get_app0
 have lt6':∀l,(h6++l)[h5.length]?=some (.cells true [.int .u8 3,.int .i64 5]):=fun l=>get_old lt6;cases fb7 with
 | none =>
  simp only[rv_none,List.length_nil] at e24b;rw[hE.fn T17]; simp only[push_cast,ac17,e18,e20,e24,e22,e22b,e22c,e24b,g6',lt6',eqw,htk,simprocAttr]
 | some b7 =>
  simp only[rv_some,List.length_nil] at e24b;rw[hE.fn T17]; simp only[push_cast,ac17,e18,e20,e24,e22,e22b,e22c,e24b,g6',lt6',eqw,htk,simprocAttr]
end
section
open Tb
variable {E:Env}(hE:EnvT E){lim:Nat}{h:Hp}
include hE
theorem c122 {kb:Nat}{own:Bool}{k a b:Int}(hb:h[kb]?=some (.cells own [.int .u8 k])):evI E lim (.func 122) [.agg #[.int .u8 a,.int .i64 b],.pointer (some ⟨kb,0,none⟩)] h=some (.bool (a==k),h):=by
 have hb':∀l,(h++l)[kb]?=some (.cells own [.int .u8 k]):=fun l=>get_old hb;rw[hE.fn T122]; simp only[push_cast,ac122,hb',simprocAttr]
theorem c124 {a b c d:Int}(h1:0<=a/\a<256)(h2:0<=c/\c<256):evI E lim (.func 124) [.agg #[.int .u8 a,.int .i64 b],.agg #[.int .u8 c,.int .i64 d]] h=some (.int .i64 (a-c),h):=by
 rw[hE.fn T124];simp +contextual (disch:=omega) only[push_cast,ac124,wrap64,Int.tdiv_eq_ediv_of_nonneg,Int.tmod_eq_emod_of_nonneg,simprocAttr]
omit hE in
theorem fds_slk {b:Nat} {l:List (Int×Int)} (hb:h[b]?=some (.cells true (fds l))):SlK 2 h (some ⟨b,0,none⟩) l.length 2 fun j=>fd (l.getD j (0,0)):=fun _=>⟨b,0,true,_,rfl,rfl,hb,by rw[fds_len]; omega,fun j hj=>by
 rw[Nat.zero_add];exact chunk_get (f:=fd) (fun _=>rfl) _ _ _ (by rw[List.getD_eq_getElem?_getD,List.getElem?_eq_getElem hj]; rfl)⟩
theorem w184 {b kb:Nat}{own:Bool}{k:Int}{l:List (Int×Int)}(hb:h[b]?=some (.cells true (fds l)))(hkb:h[kb]?=some (.cells own [.int .u8 k]))(hl:l.length<=2) :
  evI E lim (.func 184) [.slice (some ⟨b,0,none⟩) l.length 2,.func (.func 122) #[] #[.pointer (some ⟨kb,0,none⟩)]] h=some (.int .i64 (findI (fun j=>(l.getD j (0,0)).1==k) 0 l.length),h) :=
 c184 hE (fds_slk hb) (by omega) fun j hj=>c122 hE hkb
theorem w121A {b kb:Nat}{own:Bool}{k:Int}{l:List (Int×Int)}(hb:h[b]?=some (.cells true (fds l)))(hkb:h[kb]?=some (.cells own [.int .u8 k]))(hl:l.length<=2)(hn:findI (fun j=>(l.getD j (0,0)).1==k) 0 l.length=-1) :
  evI E lim (.func 121) [.slice (some ⟨b,0,none⟩) l.length 2,.func (.func 122) #[] #[.pointer (some ⟨kb,0,none⟩)]] h=some (.slice (some ⟨b,0,none⟩) l.length 2,h):=by
 have q:=w184 hE (lim:=lim) hb hkb hl;rw[hn] at q;rw[hE.fn T121]; simp only[push_cast,ac121,q,simprocAttr]
theorem w121N {kb:Nat} :
  evI E lim (.func 121) [.slice none 0 0,.func (.func 122) #[] #[.pointer (some ⟨kb,0,none⟩)]] h=some (.slice none 0 0,h):=by
 have q:=c184 hE (lim:=lim) (h:=h) (a:=none) (n:=0) (e:=0) (L:=fun _=>[]) (p:=122) (fa:=#[]) (fb:=#[.pointer (some ⟨kb,0,none⟩)]) (q:=fun _=>true) (fun h=>absurd h (by omega)) (by omega) (fun j hj=>absurd hj (by omega));rw[show findI (fun _=>true) 0 0=-1 from rfl] at q;rw[hE.fn T121]; simp only[push_cast,ac121,q,simprocAttr]
theorem w121B {b kb:Nat}{own:Bool}{k a:Int}(hb:h[b]?=some (.cells true (fds [(k,a)])))(hkb:h[kb]?=some (.cells own [.int .u8 k])) :
  evI E lim (.func 121) [.slice (some ⟨b,0,none⟩) 1 2,.func (.func 122) #[] #[.pointer (some ⟨kb,0,none⟩)]] h=some (.slice (some ⟨b,0,none⟩) 0 2,h.set b (.cells true [.int .u8 0,.int .i64 0])):=by
 have q:=w184 hE (lim:=lim) hb hkb (by show 1<=2; omega);rw[show findI (fun j=>(([(k,a)]:List (Int×Int)).getD j (0,0)).1==k) 0 [(k,a)].length=0 by simp[findI]] at q;simp only[fds,fd,List.flatMap_cons,List.flatMap_nil,List.append_nil,List.length_cons,List.length_nil,Nat.zero_add] at hb q;rw[hE.fn T121]; simp only[push_cast,ac121,q,hb,evK_loop' hE.mono,lp121_0,(show repl 1 [Value.int .u8 0,Value.int .i64 0]=[Value.int .u8 0,Value.int .i64 0] from rfl),(show IntKind.i64.wrap 0=0 from rfl),(show IntKind.i64.wrap 1=1 from rfl),(show IntKind.i64.wrap 2=2 from rfl),bound,Option.map_none,Int.le_refl,Nat.zero_mul,Nat.mul_zero,set_get (lt_of_get hb),simprocAttr]
theorem w121D {b kb:Nat}{own:Bool}{k a c d:Int}(hc:c≠k)(hb:h[b]?=some (.cells true (fds [(c,d),(k,a)])))(hkb:h[kb]?=some (.cells own [.int .u8 k])) :
  evI E lim (.func 121) [.slice (some ⟨b,0,none⟩) 2 2,.func (.func 122) #[] #[.pointer (some ⟨kb,0,none⟩)]] h=some (.slice (some ⟨b,0,none⟩) 1 2,h.set b (.cells true [.int .u8 c,.int .i64 d,.int .u8 0,.int .i64 0])):=by
 have q:=w184 hE (lim:=lim) hb hkb (by show 2<=2; omega);rw[show findI (fun j=>(([(c,d),(k,a)]:List (Int×Int)).getD j (0,0)).1==k) 0 [(c,d),(k,a)].length=1 by simp[findI,hc]] at q;simp only[fds,fd,List.flatMap_cons,List.flatMap_nil,List.append_nil,List.cons_append,List.nil_append,List.length_cons,List.length_nil,Nat.zero_add] at hb q;rw[hE.fn T121]; simp only[push_cast,ac121,q,hb,evK_loop' hE.mono,lp121_0,(show repl 1 [Value.int .u8 0,Value.int .i64 0]=[Value.int .u8 0,Value.int .i64 0] from rfl),(show IntKind.i64.wrap 0=0 from rfl),(show IntKind.i64.wrap 1=1 from rfl),(show IntKind.i64.wrap 2=2 from rfl),bound,Option.map_none,Int.le_refl,Nat.zero_mul,Nat.mul_zero,set_get (lt_of_get hb),simprocAttr]
theorem w121C {b kb:Nat}{own:Bool}{k a c d:Int}(hc:c≠k)(hb:h[b]?=some (.cells true (fds [(k,a),(c,d)])))(hkb:h[kb]?=some (.cells own [.int .u8 k])) :
  PostV (evI E lim (.func 121) [.slice (some ⟨b,0,none⟩) 2 2,.func (.func 122) #[] #[.pointer (some ⟨kb,0,none⟩)]] h) fun v h'=>v=.slice (some ⟨b,0,none⟩) 1 2/\∃y,h'=h.set b (.cells true [.int .u8 c,.int .i64 d,.int .u8 0,.int .i64 0])++[y]:=by
 have q:=w184 hE (lim:=lim) hb hkb (by show 2<=2; omega);rw[show findI (fun j=>(([(k,a),(c,d)]:List (Int×Int)).getD j (0,0)).1==k) 0 [(k,a),(c,d)].length=0 by simp[findI]] at q;have q2:=fun l=>c122 hE (lim:=lim) (h:=h++[l]) (a:=c) (b:=d) (get_old hkb);have hc':(c==k)=false:=by simpa using hc
 simp only[fds,fd,List.flatMap_cons,List.flatMap_nil,List.append_nil,List.cons_append,List.nil_append,List.length_cons,List.length_nil,Nat.zero_add] at hb q;have k1:∀l,(h++l)[b]?=some (.cells true [.int .u8 k,.int .i64 a,.int .u8 c,.int .i64 d]):=fun l=>get_old hb;have k2:∀l y,(h++l).set b y=h.set b y++l:=fun l y=>set_old (lt_of_get hb);have k3:∀l y,(h.set b y++l)[b]?=some y:=fun l y=>get_old (set_get (lt_of_get hb));have k4:∀l y y',(h.set b y++l).set b y'=h.set b y'++l:=fun l y y'=>by rw[set_old (by simpa using lt_of_get hb),List.set_set]
 rw[hc'] at q2;rw[hE.fn T121]; simp only[push_cast,ac121,q,hb,evK_loop' hE.mono,lp121_0,(show repl 1 [Value.int .u8 0,Value.int .i64 0]=[Value.int .u8 0,Value.int .i64 0] from rfl),q2,k1,k2,k3,k4,(show IntKind.i64.wrap 0=0 from rfl),(show IntKind.i64.wrap 1=1 from rfl),(show IntKind.i64.wrap 2=2 from rfl),bound,Option.map_none,Int.le_refl,Nat.zero_mul,Nat.mul_zero,set_get (lt_of_get hb),simprocAttr];exact⟨_,rfl⟩
theorem w123a (hL:LenOk E){b:Nat}{a x:Int}(hb:h[b]?=some (.cells true (fds [(a,x)]))) :
  evI E lim (.func 123) [.slice (some ⟨b,0,none⟩) 1 2,.func (.func 124) #[] #[]] h=some (.tuple #[],h):=by
 obtain⟨L,e167,l1,l2⟩:=hL h.length h 1 (by omega) (by omega);simp only[fds,fd,List.flatMap_cons,List.flatMap_nil,List.append_nil,List.cons_append,List.nil_append] at hb;have w0:IntKind.i64.wrap 0=0:=rfl;have w1:IntKind.i64.wrap 1=1:=rfl;have w2:IntKind.i64.wrap 2=2:=rfl;have wu:IntKind.u64.wrap 1=1:=rfl;rw[hE.fn T123]; simp only[push_cast,ac123,hb,evK_loop' hE.mono,hE.fn T185,ac185,lp185_0,hE.fn T247,ac247,lp247_0,lp247_1,w0,w1,w2,wu,Int.le_refl,e167,simprocAttr]
theorem w123b (hL:LenOk E){b:Nat}{a x c y:Int}(h1:0<=a)(h2:a<c)(h3:c<256)(hb:h[b]?=some (.cells true (fds [(a,x),(c,y)]))) :
  evI E lim (.func 123) [.slice (some ⟨b,0,none⟩) 2 2,.func (.func 124) #[] #[]] h=some (.tuple #[],h):=by
 obtain⟨L,e167,l1,l2⟩:=hL h.length h 2 (by omega) (by omega);simp only[fds,fd,List.flatMap_cons,List.flatMap_nil,List.append_nil,List.cons_append,List.nil_append] at hb;have w0:IntKind.i64.wrap 0=0:=rfl;have w1:IntKind.i64.wrap 1=1:=rfl;have w2:IntKind.i64.wrap 2=2:=rfl;have wu:IntKind.u64.wrap 2=2:=rfl;have e124:=c124 hE (lim:=h.length) (h:=h) (a:=c) (b:=y) (c:=a) (d:=x) (by omega) (by omega);have g1:(c-a<0)=False:=eq_false (by omega);rw[hE.fn T123]; simp only[push_cast,ac123,hb,evK_loop' hE.mono,hE.fn T185,ac185,lp185_0,hE.fn T247,ac247,lp247_0,lp247_1,w0,w1,w2,wu,Int.le_refl,e167,e124,g1,simprocAttr]
theorem w123c (hL:LenOk E){b:Nat}{a x c y:Int}(h1:0<=c)(h2:c<a)(h3:a<256)(hb:h[b]?=some (.cells true (fds [(a,x),(c,y)]))) :
  evI E lim (.func 123) [.slice (some ⟨b,0,none⟩) 2 2,.func (.func 124) #[] #[]] h=some (.tuple #[],h.set b (.cells true (fds [(c,y),(a,x)]))):=by
 obtain⟨L,e167,l1,l2⟩:=hL h.length h 2 (by omega) (by omega);simp only[fds,fd,List.flatMap_cons,List.flatMap_nil,List.append_nil,List.cons_append,List.nil_append] at hb ⊢;have w0:IntKind.i64.wrap 0=0:=rfl;have w1:IntKind.i64.wrap 1=1:=rfl;have w2:IntKind.i64.wrap 2=2:=rfl;have wu:IntKind.u64.wrap 2=2:=rfl;have e124:=c124 hE (lim:=h.length) (h:=h) (a:=c) (b:=y) (c:=a) (d:=x) (by omega) (by omega);have tk:∀y,(h.set b y).take h.length=h.set b y:=fun y=>List.take_of_length_le (by simp);have g1:(c-a<0)=True:=eq_true (by omega);rw[hE.fn T123]; simp only[push_cast,ac123,hb,evK_loop' hE.mono,hE.fn T185,ac185,lp185_0,hE.fn T247,ac247,lp247_0,lp247_1,w0,w1,w2,wu,Int.le_refl,e167,e124,g1,set_get (lt_of_get hb),tk,simprocAttr]
omit hE in
def TM.csw (t:TM) (V:Value):List Value:=[.slice none 0 0,.int .i64 t.k.acc,.int .i64 t.rnd,.bool t.per,.bool t.oc,.bool t.oz,.string t.un,.int .i64 t.k.late,rv t.rb t.xs.length 14,.bool t.act,.int .i64 t.k.st,.int .i64 t.k.ac,.int .i64 t.k.up,.int .i64 t.k.dn,.int .i64 t.b0,.int .i64 t.s0,zv t.k.z,V]
def wl (c z:Option Int):List (Int×Int):=(match c with | some a=>[(7,a)] | none=>[])++(match z with | some b=>[(8,b)] | none=>[])
def wdel (k:Int)(l:List (Int×Int)):List (Int×Int):=l.filter fun p=>!(p.1==k)
def Rest (X:Hp)(t:TM)(V:Value)(l:List (Int×Int)):Prop:=(V=.slice none 0 0/\l=[])\/∃(wb:Nat) (cs:List Value),t.wb=some wb/\V=.slice (some ⟨wb,0,none⟩) l.length 2/\X[wb]?=some (.cells true cs)/\l.length*2<=cs.length/\cs.take (l.length*2)=fds l
omit hE in
theorem pmk {x:Option (Value×Hp)} {v:Value} {h':Hp} {P:Value->Hp->Prop} (e:x=some (v,h')) (p:P v h'):PostV x P:=by rw[e]; exact p
theorem w121 {t:TM}{tb kb:Nat}{own:Bool}{k:Int}{c z:Option Int}(T:t.In tb h)(hw:t.ws=wl c z)(hn:t.ws=[]->t.wb=none)(hk:k=7\/k=8)(hkb:h[kb]?=some (.cells own [.int .u8 k])) :
  PostV (evI E lim (.func 121) [rv t.wb t.ws.length 2,.func (.func 122) #[] #[.pointer (some ⟨kb,0,none⟩)]] h) fun V h'=>(∀j,j<h.length->t.wb≠some j->h'[j]?=h[j]?)/\h.length<=h'.length/\Rest h' t V (wdel k t.ws):=by
 have T3:=T.wai;cases hwb:t.wb with
 | none =>
  rw[hwb] at T3;simp only at T3;exact pmk (w121N hE) ⟨fun _ _ _=>rfl,Nat.le_refl _,.inl ⟨rfl,by rw[T3]; rfl⟩⟩
 | some wb =>
  rw[hwb] at T3;simp only at T3;obtain⟨-,-,w3⟩:=T3;have lw:=lt_of_get w3
  have fin:∀ {v:Value} {l:List (Int×Int)} {cs:List Value} {Y:Hp},v=.slice (some ⟨wb,0,none⟩) l.length 2->l.length*2<=cs.length->cs.take (l.length*2)=fds l->wdel k t.ws=l ->
    (∀j,j<h.length->(some wb:Option Nat)≠some j->(h.set wb (.cells true cs)++Y)[j]?=h[j]?)/\h.length<=(h.set wb (.cells true cs)++Y).length/\Rest (h.set wb (.cells true cs)++Y) t v (wdel k t.ws):=fun hv h1 h2 h3=>by
   refine⟨fun j hj hne=>?_,by simp,.inr ⟨wb,_,hwb,by rw[h3]; exact hv,get_old (set_get lw),by rw[h3]; exact h1,by rw[h3]; exact h2⟩⟩;rw[get_lt (by simpa using hj)];exact set_ne fun e=>hne (by rw[e])
  have same:wdel k t.ws=t.ws->findI (fun j=>(t.ws.getD j (0,0)).1==k) 0 t.ws.length=-1->t.ws.length<=2->PostV (evI E lim (.func 121) [rv (some wb) t.ws.length 2,.func (.func 122) #[] #[.pointer (some ⟨kb,0,none⟩)]] h) fun V h'=>(∀j,j<h.length->(some wb:Option Nat)≠some j->h'[j]?=h[j]?)/\h.length<=h'.length/\Rest h' t V (wdel k t.ws):=fun h1 h2 h3 =>
   pmk (w121A hE w3 hkb h3 h2) ⟨fun _ _ _=>rfl,Nat.le_refl _,.inr ⟨wb,_,hwb,by rw[h1],w3,by rw[h1,fds_len]; omega,by rw[h1,<- fds_len]; exact List.take_length⟩⟩
  cases c with
  | none =>
   cases z with
   | none=>exact absurd (hn hw) (by rw[hwb]; simp)
   | some b =>
    rcases hk with rfl | rfl
    ·rw[hw] at same ⊢; exact same rfl (by simp[wl,findI]) (by simp[wl])
    ·rw[hw] at w3 fin ⊢;have q:=w121B hE (lim:=lim) w3 hkb;exact pmk q (by have:=fin (v:=.slice (some ⟨wb,0,none⟩) 0 2) (l:=[]) (cs:=[.int .u8 0,.int .i64 0]) (Y:=[]) rfl (Nat.le_of_ble_eq_true rfl) rfl rfl; simpa only[List.append_nil] using this)
  | some a =>
   cases z with
   | none =>
    rcases hk with rfl | rfl
    ·rw[hw] at w3 fin ⊢;have q:=w121B hE (lim:=lim) w3 hkb;exact pmk q (by have:=fin (v:=.slice (some ⟨wb,0,none⟩) 0 2) (l:=[]) (cs:=[.int .u8 0,.int .i64 0]) (Y:=[]) rfl (Nat.le_of_ble_eq_true rfl) rfl rfl; simpa only[List.append_nil] using this)
    ·rw[hw] at same ⊢; exact same rfl (by simp[wl,findI]) (by simp[wl])
   | some b =>
    rcases hk with rfl | rfl
    ·rw[hw] at w3 fin ⊢;obtain⟨v,h',q,rfl,y,rfl⟩:=(w121C hE (lim:=lim) (by decide) w3 hkb).out;exact pmk q (fin (l:=[(8,b)]) rfl (Nat.le_of_ble_eq_true rfl) rfl rfl)
    ·rw[hw] at w3 fin ⊢;have q:=w121D hE (lim:=lim) (by decide) w3 hkb;exact pmk q (by have:=fin (v:=.slice (some ⟨wb,0,none⟩) 1 2) (l:=[(7,a)]) (cs:=[.int .u8 7,.int .i64 a,.int .u8 0,.int .i64 0]) (Y:=[]) rfl (Nat.le_of_ble_eq_true rfl) rfl rfl; simpa only[List.append_nil] using this)
def wnew (k r:Int)(l:List (Int×Int)):List (Int×Int):=if k=7 then(7,r)::wdel k l else wdel k l++[(8,r)]
omit hE in
theorem wnew7 (r:Int) (c z:Option Int):wnew 7 r (wl c z)=wl (some r) z:=by cases c<;>cases z<;>rfl
omit hE in
theorem wnew8 (r:Int) (c z:Option Int):wnew 8 r (wl c z)=wl c (some r):=by cases c<;>cases z<;>rfl
theorem w123 (hL:LenOk E){k r:Int}{c z:Option Int}(hk:k=7\/k=8){b:Nat}{n:Nat}(hn:n=(wdel k (wl c z)).length+1)(hb:h[b]?=some (.cells true (fds (wdel k (wl c z)++[(k,r)])))) :
  ∃h',evI E lim (.func 123) [.slice (some ⟨b,0,none⟩) n 2,.func (.func 124) #[] #[]] h=some (.tuple #[],h')/\h'.length=h.length/\h'[b]?=some (.cells true (fds (wnew k r (wl c z))))/\(∀j,j≠b->h'[j]?=h[j]?)/\n=(wnew k r (wl c z)).length:=by
 subst hn;rcases hk with rfl | rfl
 ·rw[wnew7];cases z with
  | none =>
   rw[show wdel 7 (wl c none)=[] by cases c<;>rfl] at hb ⊢;exact⟨h,w123a hE hL hb,rfl,hb,fun _ _=>rfl,rfl⟩
  | some y =>
   rw[show wdel 7 (wl c (some y))=[(8,y)] by cases c<;>rfl] at hb ⊢;exact⟨_,w123c hE hL (by omega) (by omega) (by omega) hb,List.length_set,set_get (lt_of_get hb),fun j hj=>set_ne (Ne.symm hj),rfl⟩
 ·rw[wnew8];cases c with
  | none =>
   rw[show wdel 8 (wl none z)=[] by cases z<;>rfl] at hb ⊢;exact⟨h,w123a hE hL hb,rfl,hb,fun _ _=>rfl,rfl⟩
  | some y =>
   rw[show wdel 8 (wl (some y) z)=[(7,y)] by cases z<;>rfl] at hb ⊢;exact⟨h,w123b hE hL (by omega) (by omega) (by omega) hb,rfl,hb,fun _ _=>rfl,rfl⟩
omit hE in
theorem wdel_le (k:Int) (c z:Option Int):(wdel k (wl c z)).length<=2:=Nat.le_trans (List.length_filter_le _ _) (by cases c<;>cases z<;>simp[wl])
theorem c67 (hL:LenOk E){t:TM}{tb:Nat}{k:Int}{c z:Option Int}(T:t.In tb h)(hw:t.ws=wl c z)(hn:t.ws=[]->t.wb=none)(hk:k=7\/k=8)(hlim:lim<=tb)(real mono:Int) :
  PostV (evI E lim (.func 67) [.pointer (some ⟨tb,0,none⟩),.int .u8 k,.agg #[.int .i64 real,.int .i64 mono]] h) fun v h'=>v=.tuple #[]/\h.length<=h'.length/\(∀j,j<h.length->j≠tb->t.wb≠some j->h'[j]?=h[j]?) /\
   ∃nb,h.length<=nb/\({ t with wb:=some nb,ws:=wnew k real t.ws }:TM).In tb h':=by
 have lb:=lt_of_get T.blk;have x6:∀q:Prop,(lim<=tb\/q)=True:=fun q=>by simp[hlim]
 have ne:t.wb≠some tb:=fun e=>by
  have:=T.wai;rw[e] at this;exact this.1 rfl
 refine post_fn hE T67 (Nat.le_of_ble_eq_true rfl) ?_;show Post (evK E lim ac67 _ _) _;unfold ac67;refine post_mid hE.mono (fun g W=>h++[.cells true [.int .u8 k],.cells true [.int .i64 real,.int .i64 mono]]=W/\g.rd 0=.pointer (some ⟨tb,0,none⟩)/\g.rd 4=.pointer (some ⟨h.length,0,none⟩)/\g.rd 5=.pointer (some ⟨h.length+1,0,none⟩)) (by simp only[push_cast,simprocAttr]) ?_;rintro g W ⟨rfl,g0,g4,g5⟩;refine post_mid hE.mono (fun g W=>∃V,(∀j,j<h.length+2->j≠tb->t.wb≠some j->W[j]?=(h++[.cells true [.int .u8 k],.cells true [.int .i64 real,.int .i64 mono]])[j]?)/\h.length+2<=W.length/\Rest W t V (wdel k t.ws)/\W[tb]?=some (.cells true (t.csw V))/\g.rd 0=.pointer (some ⟨tb,0,none⟩)/\g.rd 4=.pointer (some ⟨h.length,0,none⟩)/\g.rd 5=.pointer (some ⟨h.length+1,0,none⟩)) ?_ ?_
 ·obtain⟨V,h',e121,o1,o2,o3⟩:=(w121 hE (lim:=lim) (T.grow _) hw hn hk (kb:=h.length) (own:=true) (get_app0 (l:=[.cells true [.int .u8 k],.cells true [.int .i64 real,.int .i64 mono]]))).out;have hb:(h++[.cells true [.int .u8 k],.cells true [.int .i64 real,.int .i64 mono]])[tb]?=some (.cells true t.cs):=get_old T.blk;have hb':h'[tb]?=some (.cells true t.cs):=(o1 tb (by simp; omega) ne).trans hb;have lb':=lt_of_get hb';simp only[TM.cs] at hb hb';obtain⟨va,vn,ve,rfl⟩:∃a n e,V=.slice a n e:=by rcases o3 with⟨rfl,-⟩ | ⟨_,_,-,rfl,-⟩<;>exact⟨_,_,_,rfl⟩
  simp only[push_cast,g0,g4,g5,hb,hb',e121,x6,simprocAttr];refine⟨.slice va vn ve,fun j j1 j2 j3=>?_,?_,?_,?_⟩
  ·rw[set_ne (Ne.symm j2)]; exact o1 j (by simp; omega) j3
  ·simp at o2 ⊢; exact o2
  ·rcases o3 with h | ⟨wb,cs,a1,a2,a3,a4,a5⟩
   ·exact .inl h
   ·exact .inr ⟨wb,cs,a1,a2,by rw[set_ne (fun e=>ne (by rw[a1,e]))]; exact a3,a4,a5⟩
  ·exact set_get lb'
 clear g0 g4 g5 g;rintro g W ⟨V,o1,o2,o3,o4,g0,g4,g5⟩
 have hk4:W[h.length]?=some (.cells true [.int .u8 k]):=(o1 _ (by omega) (by omega) (fun e=>by
  have:=T.wai;rw[e] at this;have:=lt_of_get this.2.2;omega)).trans get_app0
 have hk5:W[h.length+1]?=some (.cells true [.int .i64 real,.int .i64 mono]):=(o1 _ (by omega) (by omega) (fun e=>by
  have:=T.wai;rw[e] at this;have:=lt_of_get this.2.2;omega)).trans get_app
 have lb4:=lt_of_get o4;have dl:(wdel k t.ws).length<=2:=by rw[hw]; exact wdel_le k c z
 refine post_mid hE.mono (fun g X=>(∀j,j<h.length->j≠tb->t.wb≠some j->X[j]?=h[j]?)/\W.length+1<X.length/\X[W.length+1]?=some (.cells true (fds (wdel k t.ws++[(k,real)])))/\X[tb]?=some (.cells true (t.csw (.slice (some ⟨W.length+1,0,none⟩) ((wdel k t.ws).length+1) 2)))/\g.rd 0=.pointer (some ⟨tb,0,none⟩)) ?_ ?_
 ·have old:∀j,j<h.length->j≠tb->t.wb≠some j->W[j]?=h[j]?:=fun j j1 j2 j3=>(o1 j (by omega) j2 j3).trans (get_lt j1);rcases o3 with⟨rfl,e⟩ | ⟨wb,cs,a1,rfl,a3,a4,a5⟩
  ·rw[e];simp only[TM.csw] at o4;have o4':∀l,(W++l)[tb]?=_:=fun l=>get_old o4;have k2:∀x l,(W++l).set tb x=W.set tb x++l:=fun x l=>set_old lb4;simp only[push_cast,g0,g4,g5,o4,o4',hk4,hk5,srcOf,x6,k2,simprocAttr];refine⟨fun j j1 j2 j3=>?_,?_,?_,?_⟩
   ·rw[get_lt (by simp; omega),set_ne (Ne.symm j2)]; exact old j j1 j2 j3
   ·simp
   ·rw[get_appC (by simp)]; rfl
   ·exact get_old (set_get lb4)
  ·have lw:=lt_of_get a3;have nwt:wb≠tb:=fun e=>ne (by rw[a1,e]);simp only[TM.csw] at o4;have o4':∀l,(W++l)[tb]?=_:=fun l=>get_old o4;have o5:∀x l,(W.set wb x++l)[tb]?=_:=fun x l=>get_old ((set_ne nwt).trans o4);have a3':∀l,(W++l)[wb]?=_:=fun l=>get_old a3;have k2:∀x l,(W++l).set wb x=W.set wb x++l:=fun x l=>set_old lw;have k3:∀x y l,(W.set wb y++l).set tb x=(W.set wb y).set tb x++l:=fun x y l=>set_old (by simpa using lb4);have b1:(((wdel k t.ws).length+1)*16<=140737488355328)=True:=eq_true (by omega);have a4':((wdel k t.ws).length*2<=cs.length)=True:=eq_true a4
   have fin:∀Y:List Value,Y=fds (wdel k t.ws++[(k,real)])->∀a,(∀j,j<h.length->j≠tb->t.wb≠some j->((W.set wb .dead).set tb (.cells true (t.csw (.slice (some ⟨W.length+1,0,none⟩) ((wdel k t.ws).length+1) 2)))++[a,.cells true Y])[j]?=h[j]?)/\W.length+1<((W.set wb .dead).set tb (.cells true (t.csw (.slice (some ⟨W.length+1,0,none⟩) ((wdel k t.ws).length+1) 2)))++[a,.cells true Y]).length/\((W.set wb .dead).set tb (.cells true (t.csw (.slice (some ⟨W.length+1,0,none⟩) ((wdel k t.ws).length+1) 2)))++[a,.cells true Y])[W.length+1]?=some (.cells true (fds (wdel k t.ws++[(k,real)])))/\((W.set wb .dead).set tb (.cells true (t.csw (.slice (some ⟨W.length+1,0,none⟩) ((wdel k t.ws).length+1) 2)))++[a,.cells true Y])[tb]?=some (.cells true (t.csw (.slice (some ⟨W.length+1,0,none⟩) ((wdel k t.ws).length+1) 2))):=fun Y hY a=>by
    refine⟨fun j j1 j2 j3=>?_,by simp,by rw[get_appC (by simp),hY]; rfl,get_old (set_get (by simpa using lb4))⟩;rw[get_lt (by simp; omega),set_ne (Ne.symm j2),set_ne (fun e=>j3 (by rw[a1,e]))];exact old j j1 j2 j3
   have e1:cs.take ((wdel k t.ws).length*2)++[.int .u8 k,.int .i64 real]=fds (wdel k t.ws++[(k,real)]):=by rw[a5,<- fds_app]; rfl
   by_cases q:(wdel k t.ws).length*2=cs.length
   ·have e2:cs++[.int .u8 k,.int .i64 real]=fds (wdel k t.ws++[(k,real)]):=by rw[<- e1,q,List.take_length]
    have q':((wdel k t.ws).length*2=cs.length)=True:=eq_true q;simp only[push_cast,g0,g4,g5,o4,o4',o5,a3',hk4,hk5,srcOf,x6,k2,k3,b1,a4',q',simprocAttr];have:=fin _ e2 (.cells true [.int .u8 k,.int .i64 real]);exact⟨this.1,by simp,this.2.2⟩
   ·have q':((wdel k t.ws).length*2=cs.length)=False:=eq_false q;simp only[push_cast,g0,g4,g5,o4,o4',o5,a3',hk4,hk5,srcOf,x6,k2,k3,b1,a4',q',simprocAttr];have:=fin _ e1 (.cells true [.int .u8 k,.int .i64 real]);exact⟨this.1,by simp,this.2.2⟩
 clear g0 g4 g5 g;rintro g X ⟨p1,p2,p3,p4,g0⟩;have hw':=hw;rw[hw] at p3;obtain⟨h',e123,q1,q2,q3,q4⟩:=w123 hE (lim:=lim) hL hk rfl p3;have lb5:=lt_of_get p4;simp only[TM.csw] at p4;rw[<- hw] at e123 q2 q4;simp only[push_cast,g0,p4,e123,simprocAttr];have L:h.length<=h'.length:=by omega
 first | refine⟨rfl,L,?_⟩ | refine⟨L,?_⟩
 refine⟨fun j j1 j2 j3=>by rw[q3 j (by omega)]; exact p1 j j1 j2 j3,W.length+1,by omega,?_,?_,⟨by omega,?_,q2⟩,T.n,?_⟩
 ·rw[q3 tb (by omega),p4,q4]; rfl
 ·have:=T.row;cases hrb:t.rb with
  | none=>rw[hrb] at this; exact this
  | some b =>
   rw[hrb] at this;have l1:=lt_of_get this.2;refine⟨this.1,?_⟩;rw[q3 b (by omega),p1 b l1 this.1 (fun e=>?_)]
   ·exact this.2
   ·have:=T.wai;rw[e] at this;exact this.2.1 hrb
 ·intro e;have:=T.row;rw[show t.rb=some (W.length+1) from e] at this;have:=lt_of_get this.2;omega
 ·show(wnew k real t.ws).length<=1000;rw[<- q4]; omega
end
section
open Tb
def jumpX (real:Int)(x:TK):TK:={ x with base:=min x.base real }
def TM.clk (t:TM)(real:Int)(j:Bool)(nb:Option Nat):TM:=if j=true then { t with xs:=t.xs.map (jumpX real),wb:=nb,ws:=if t.oc=true then wnew 7 real t.ws else t.ws } else { t with wb:=nb }
def TM.zon (t:TM)(real:Int)(Z:Option ZN)(zd:Bool)(nb:Option Nat):TM:=if zd=true then { t with k:={ t.k with z:=Z },wb:=nb,ws:=if t.oz=true then wnew 8 real t.ws else t.ws } else { t with wb:=nb }
structure TM.Wt (t:TM):Prop where
 sh:∃c z,t.ws=wl c z
 no:t.ws=[]->t.wb=none
theorem wnew_wl {k r:Int}(hk:k=7\/k=8){l:List (Int×Int)}(h:∃c z,l=wl c z):∃c z,wnew k r l=wl c z:=by
 obtain⟨c,z,rfl⟩:=h;rcases hk with rfl | rfl
 ·exact⟨_,_,wnew7 r c z⟩
 ·exact⟨_,_,wnew8 r c z⟩
theorem wnew_ne (k r:Int)(l:List (Int×Int)):wnew k r l≠[]:=by unfold wnew; split<;>simp
theorem rv_ex {b:Option Nat}{n k:Nat}(h:b=none->n=0):∃a e,rv b n k=.slice a n e:=by
 cases b with
 | none=>rw[h rfl]; exact⟨none,0,rfl⟩
 | some b=>exact⟨_,_,rfl⟩
theorem TM.In.rvx {t:TM}{tb:Nat}{h:Hp}(T:t.In tb h):∃a e,rv t.rb t.xs.length 14=.slice a t.xs.length e:=rv_ex fun e=>by
 have:=T.row;rw[e] at this;simp only at this;rw[this]; rfl
variable {E:Env}(C:Conds E){lim:Nat}{h H0:Hp}{F:Nat->Prop}
include C
theorem loop26 {t:TM}{tb rb:Nat}(hrb:t.rb=some rb)(hne:rb≠tb)(hn:t.xs.length<=1000){real mono:Int}{n0:Nat}{X0:Hp}(b0:X0[tb]?=some (.cells true t.cs))(r0:X0[rb]?=some (.cells true (tks t.xs)))(w0:X0[n0]?=some (.cells true [.int .i64 real,.int .i64 mono]))(hn0:n0≠rb)
  {f:Fr}{v2 v4:Value}(f0:f.rd 0=.pointer (some ⟨tb,0,none⟩))(f2:f.rd 2=v2)(f4:f.rd 4=v4)(f6:f.rd 6=.pointer (some ⟨n0,0,none⟩))(f19:f.rd 19=.int .i64 t.xs.length)(f20:f.rd 20=.int .i64 0){P:AX->Fr->Hp->Prop}
  (hP:∀f',f'.rd 0=.pointer (some ⟨tb,0,none⟩)->f'.rd 2=v2->f'.rd 4=v4->f'.rd 6=.pointer (some ⟨n0,0,none⟩)->P (.exit 0) f' (X0.set rb (.cells true (tks (t.xs.map (jumpX real)))))):Post (evK E lim (.loop lp26_0) f X0) P:=by
 have hE:=C.hE;have lr:=lt_of_get r0
 refine loop_post hE.mono (fun q g X=>∃(i:Nat),i<=t.xs.length/\X=X0.set rb (.cells true (tks (updN (jumpX real) i t.xs))) /\
  g.rd 0=.pointer (some ⟨tb,0,none⟩)/\g.rd 2=v2/\g.rd 4=v4/\g.rd 6=.pointer (some ⟨n0,0,none⟩)/\g.rd 19=.int .i64 t.xs.length/\g.rd 20=.int .i64 i/\t.xs.length-i=q) ?_ t.xs.length _ _ ⟨0,Nat.zero_le _,(set_same r0).symm,f0,f2,f4,f6,f19,f20,rfl⟩
 clear f0 f2 f4 f6 f19 f20;rintro q g X ⟨i,hi,rfl,g0,g2,g4,g6,g19,g20,hq⟩
 by_cases hlt:(i:Int)<t.xs.length
 ·have hi':i<t.xs.length:=by omega
  obtain⟨x,hxi⟩:∃x,t.xs[i]?=some x:=⟨_,List.getElem?_eq_getElem hi'⟩;have ul:=updN_len (jumpX real) i t.xs;have uget:=updN_get (u:=jumpX real) hxi;have a2:(0<=(i:Int))=True:=by simp
  have a5:(i<t.xs.length)=True:=eq_true hi';have a8:=wn1 (i:=i);have E3:=updN_set (u:=jumpX real) hxi;have xb:∀y,(X0.set rb y)[tb]?=some (.cells true t.cs):=fun y=>by rw[set_ne hne]; exact b0
  have xw:∀y,(X0.set rb y)[n0]?=some (.cells true [.int .i64 real,.int .i64 mono]):=fun y=>by rw[set_ne (by omega)]; exact w0
  generalize hys:updN (jumpX real) i t.xs=ys at *
  have E1:(tks ys).set (i*14+12) (.int .i64 (min x.base real))=tks (updN (jumpX real) (i+1) t.xs):=by
   rw[<- E3];exact chunk_set TK.cs_len ys i x _ 12 _ uget (by omega) rfl
  have a9:(i*14+12+1<=(tks ys).length)=True:=eq_true (by rw[tks_len,ul]; omega)
  have a7:(tks ys)[i*14+12]?=some (.int .i64 x.base):=by
   have:=chunk_get TK.cs_len ys i x uget
   have e:(((tks ys).drop (i*14)).take 14)[12]?=some (.int .i64 x.base):=by
    show(((ys.flatMap TK.cs).drop (i*14)).take 14)[12]?=_;rw[this]; rfl
   rw[List.getElem?_take_of_lt (by omega),List.getElem?_drop] at e;exact e
  simp only[TM.cs,hrb,rv] at xb;simp only[push_cast,lp26_0,g0,g2,g4,g6,g19,g20,hlt,a2,a5,a8,a9,a7,xb,xw,set_get lr,sureL,E1,simprocAttr];exact⟨_,(by omega:t.xs.length-(i+1)<q),i+1,by omega,rfl,rfl,rfl⟩
 ·simp only[push_cast,lp26_0,g19,g20,hlt,simprocAttr];have:i=t.xs.length:=by omega
  subst this;rw[updN_all];exact hP _ (by simp[g0]) (by simp[g2]) (by simp[g4]) (by simp[g6])
theorem loop26r {t:TM}{tb:Nat}{real mono:Int}{n0:Nat}{X0:Hp}(T:t.In tb X0)(w0:X0[n0]?=some (.cells true [.int .i64 real,.int .i64 mono]))(hn0:t.rb≠some n0)
  {f:Fr}{v2 v4:Value}(f0:f.rd 0=.pointer (some ⟨tb,0,none⟩))(f2:f.rd 2=v2)(f4:f.rd 4=v4)(f6:f.rd 6=.pointer (some ⟨n0,0,none⟩))(f19:f.rd 19=.int .i64 t.xs.length)(f20:f.rd 20=.int .i64 0){P:AX->Fr->Hp->Prop}
  (hP:∀f' X1,({ t with xs:=t.xs.map (jumpX real) }:TM).In tb X1->(∀j,t.rb≠some j->X1[j]?=X0[j]?)->X1.length=X0.length->f'.rd 0=.pointer (some ⟨tb,0,none⟩)->f'.rd 2=v2->f'.rd 4=v4->f'.rd 6=.pointer (some ⟨n0,0,none⟩)->P (.exit 0) f' X1):Post (evK E lim (.loop lp26_0) f X0) P:=by
 have hE:=C.hE;have T2:=T.row;have T3:=T.wai;cases hrb:t.rb with
 | none =>
  rw[hrb] at T2;simp only at T2;rw[T2] at f19;simp only[push_cast,evK_loop' hE.mono,lp26_0,f19,f20,Int.lt_irrefl,simprocAttr];refine hP _ _ ⟨?_,?_,T3,by simp[T2],T.m⟩ (fun _ _=>rfl) rfl (by simp[f0]) (by simp[f2]) (by simp[f4]) (by simp[f6])
  ·rw[T.blk]; simp[TM.cs,T2]
  ·simp[hrb,T2]
 | some rb =>
  rw[hrb] at T2;simp only at T2;obtain⟨r1,r2⟩:=T2;refine loop26 C hrb r1 T.n T.blk r2 w0 (fun e=>hn0 (by rw[hrb,e])) f0 f2 f4 f6 f19 f20 fun f' q0 q2 q4 q6=>hP _ _ ⟨?_,?_,?_,by simpa using T.n,T.m⟩ (fun j hj=>set_ne fun e=>hj (by rw[hrb,e])) List.length_set q0 q2 q4 q6
  ·rw[set_ne r1,T.blk]; simp[TM.cs]
  ·simp only[hrb];exact⟨r1,set_get (lt_of_get r2)⟩
  ·simp only;cases hwb:t.wb with
   | none=>rw[hwb] at T3; exact T3
   | some wb =>
    rw[hwb] at T3;exact⟨T3.1,T3.2.1,(set_ne fun e=>T3.2.1 (by rw[hrb,e])).trans T3.2.2⟩
theorem c26_off {t:TM}{tb:Nat}(hb:h[tb]?=some (.cells true t.cs))(ha:t.act=false)(real mono:Int)(Z:Option ZN)(j zd:Bool):evI E lim (.func 26) [.pointer (some ⟨tb,0,none⟩),.agg #[.int .i64 real,.int .i64 mono],zv Z,.bool j,.bool zd] h=some (undef,h++[.cells true [.int .i64 real,.int .i64 mono]]):=by
 have hE:=C.hE;have e35:=fun l=>c35 C (lim:=lim) (h:=h++l) (t:=t) (get_old hb);rw[ha] at e35;rw[hE.fn T26]; simp only[push_cast,ac26,e35,simprocAttr];rfl
omit C in
def CQ (h:Hp) (tb:Nat) (t t':TM) (now:Blk) (zv2:Value) (zd:Bool) (g:Fr) (X:Hp):Prop:=t'.In tb X/\t'.rb=t.rb/\t'.Wt/\(t'.wb=t.wb\/∃b,t'.wb=some b/\h.length<=b)/\(∀j,j<h.length->j≠tb->t.rb≠some j->t.wb≠some j->X[j]?=h[j]?)/\h.length<X.length/\X[h.length]?=some now/\t'.wb≠some h.length /\
 g.rd 0=.pointer (some ⟨tb,0,none⟩)/\g.rd 2=zv2/\g.rd 4=.bool zd/\g.rd 6=.pointer (some ⟨h.length,0,none⟩)
theorem c26 {t:TM}{tb:Nat}(T:t.In tb h)(hW:t.Wt)(ha:t.act=true)(hlim:lim<=tb)(real mono:Int)(Z:Option ZN)(j zd:Bool) :
  PostV (evI E lim (.func 26) [.pointer (some ⟨tb,0,none⟩),.agg #[.int .i64 real,.int .i64 mono],zv Z,.bool j,.bool zd] h) fun v h'=>v=undef/\h.length<=h'.length/\(∀j,j<h.length->j≠tb->t.rb≠some j->t.wb≠some j->h'[j]?=h[j]?) /\
   ∃n1 n2,((t.clk real j n1).zon real Z zd n2).In tb h'/\((t.clk real j n1).zon real Z zd n2).Wt/\(n2=t.wb\/∃b,n2=some b/\h.length<=b):=by
 have hE:=C.hE;have lb:=lt_of_get T.blk;have x6:∀q:Prop,(lim<=tb\/q)=True:=fun q=>by simp[hlim]
 have e35:=c35 C (lim:=lim) (h:=h++[.cells true [.int .i64 real,.int .i64 mono]]) (t:=t) (get_old T.blk);rw[ha] at e35;obtain⟨p,hp⟩:=zv_ptr Z;rw[hp]
 have wlt:∀b,t.wb=some b->b<h.length:=fun b e=>by
  have:=T.wai;rw[e] at this;exact lt_of_get this.2.2
 refine post_fn hE T26 (Nat.le_of_ble_eq_true rfl) ?_;show Post (evK E lim ac26 _ _) _;unfold ac26;refine post_mid hE.mono (fun g W=>h++[.cells true [.int .i64 real,.int .i64 mono]]=W/\g.rd 0=.pointer (some ⟨tb,0,none⟩)/\g.rd 2=.pointer p/\g.rd 3=.bool j/\g.rd 4=.bool zd/\g.rd 6=.pointer (some ⟨h.length,0,none⟩)) (by simp only[push_cast,simprocAttr]) ?_;rintro g W ⟨rfl,g0,g2,g3,g4,g6⟩;refine post_mid hE.mono (fun g W=>h++[.cells true [.int .i64 real,.int .i64 mono]]=W/\g.rd 0=.pointer (some ⟨tb,0,none⟩)/\g.rd 2=.pointer p/\g.rd 3=.bool j/\g.rd 4=.bool zd/\g.rd 6=.pointer (some ⟨h.length,0,none⟩)) (by simp only[push_cast,e35,g0,g2,g3,g4,g6,simprocAttr]) ?_;clear g0 g2 g3 g4 g6 g;rintro g W ⟨rfl,g0,g2,g3,g4,g6⟩;refine post_mid hE.mono (fun g X=>∃n1,CQ h tb t (t.clk real j n1) (.cells true [.int .i64 real,.int .i64 mono]) (.pointer p) zd g X) ?_ ?_
 ·cases j with
  | false =>
   simp only[push_cast,g0,g2,g3,g4,g6,simprocAttr];refine⟨t.wb,T.grow _,rfl,hW,.inl rfl,fun j j1 _ _ _=>get_lt j1,by simp,get_app0,fun e=>?_,?_⟩
   ·have:=wlt _ e; omega
   ·simp only[push_cast,g0,g2,g4,g6,simprocAttr]
  | true =>
   have hb:∀l,(h++l)[tb]?=some (.cells true t.cs):=fun l=>get_old T.blk;obtain⟨ra,re,hra⟩:=T.rvx;simp only[TM.cs,hra] at hb;simp only[push_cast,g0,g2,g3,g4,g6,hb,simprocAttr];refine loop26r C (v2:=.pointer p) (v4:=.bool zd) (T.grow [.cells true [.int .i64 real,.int .i64 mono]]) get_app0 (fun e=>?_) (by simp[g0]) (by simp[g2]) (by simp[g4]) (by simp[g6]) (by simp) (by simp) ?_
   ·have:=T.row;rw[e] at this;have:=lt_of_get this.2;omega
   intro f X1 T1 y1 y2 q0 q2 q4 q6;have fr:∀j,j<h.length->t.rb≠some j->X1[j]?=h[j]?:=fun j j1 j2=>(y1 j j2).trans (get_lt j1)
   have nr:t.rb≠some h.length:=fun e=>by
    have:=T.row;rw[e] at this;have:=lt_of_get this.2;omega
   have xn:X1[h.length]?=some (.cells true [.int .i64 real,.int .i64 mono]):=(y1 _ nr).trans get_app0;have ly:=y2;rw[List.length_append] at ly;simp only[List.length_cons,List.length_nil] at ly;have hb1:=T1.blk;cases hoc:t.oc with
   | false =>
    simp only[TM.cs,hoc] at hb1;simp only[push_cast,q0,q2,q4,q6,hb1,simprocAttr];refine⟨t.wb,?_,rfl,?_,.inl rfl,fun j j1 _ j2 _=>fr j j1 j2,by omega,xn,fun e=>?_,?_⟩
    ·unfold TM.clk; rw[if_pos rfl,if_neg (by rw[hoc]; decide)]; exact T1
    ·unfold TM.clk; rw[if_pos rfl,if_neg (by rw[hoc]; decide)]; exact⟨hW.sh,hW.no⟩
    ·have:=wlt _ e; omega
    ·simp only[push_cast,q0,q2,q4,q6,simprocAttr]
   | true =>
    obtain⟨cc,zz,hcz⟩:=hW.sh;obtain⟨v,h',e67,rfl,z1,z2,nb,z3,z4⟩:=(c67 hE (lim:=lim) C.hLn T1 (k:=7) (c:=cc) (z:=zz) hcz hW.no (.inl rfl) hlim real mono).out;simp only[TM.cs,hoc] at hb1;simp only[push_cast,q0,q2,q4,q6,hb1,xn,e67,simprocAttr];have lx:X1.length=h.length+1:=by omega
    refine⟨some nb,?_,rfl,?_,.inr ⟨nb,rfl,by omega⟩,fun j j1 j2 j3 j4=>(z2 j (by omega) j2 j4).trans (fr j j1 j3),by omega,(z2 _ (by omega) (by omega) (fun e=>?_)).trans xn,fun e=>?_,?_⟩
    ·unfold TM.clk; rw[if_pos rfl,if_pos hoc]; exact z4
    ·unfold TM.clk; rw[if_pos rfl,if_pos hoc]; exact⟨wnew_wl (.inl rfl) hW.sh,fun e=>absurd e (wnew_ne 7 real t.ws)⟩
    ·have:=wlt _ e; omega
    ·have:nb=h.length:=by injection e
     omega
    ·simp only[push_cast,q0,q2,q4,q6,simprocAttr]
 clear g0 g2 g3 g4 g6 g;rintro g X ⟨n1,T1,r1,W1,b1,fr,xl,xn,nh,g0,g2,g4,g6⟩;cases zd with
 | false =>
  simp only[push_cast,g0,g2,g4,g6,simprocAttr];refine⟨rfl,by omega,fr,n1,(t.clk real j n1).wb,?_,?_,b1⟩
  ·exact T1
  ·exact W1
 | true =>
  generalize ht1:t.clk real j n1=t1 at *;have lX:=lt_of_get T1.blk;have hb1:=T1.blk;simp only[TM.cs] at hb1
  have T2:({ t1 with k:={ t1.k with z:=Z } }:TM).In tb (X.set tb (.cells true ({ t1 with k:={ t1.k with z:=Z } }:TM).cs)):=by
   refine⟨set_get lX,?_,?_,T1.n,T1.m⟩
   ·have:=T1.row;simp only;cases hrb:t1.rb with
    | none=>rw[hrb] at this; exact this
    | some rb =>
     rw[hrb] at this;exact⟨this.1,(set_ne (Ne.symm this.1)).trans this.2⟩
   ·have:=T1.wai;simp only;cases hwb:t1.wb with
    | none=>rw[hwb] at this; exact this
    | some wb =>
     rw[hwb] at this;exact⟨this.1,this.2.1,(set_ne (Ne.symm this.1)).trans this.2.2⟩
  have hne:h.length≠tb:=by omega
  cases hoz:t1.oz with
  | false =>
   obtain⟨Y,hY⟩:∃Y,Y=({ t1 with k:={ t1.k with z:=Z } }:TM).cs:=⟨_,rfl⟩;rw[<- hY] at T2;simp only[TM.cs,hoz,hp] at hb1 hY;subst hY;simp only[push_cast,g0,g2,g4,g6,hb1,x6,set_get lX,simprocAttr];refine⟨rfl,by first | omega | (rw[List.length_set]; omega),fun j j1 j2 j3 j4=>by rw[set_ne (Ne.symm j2)]; exact fr j j1 j2 j3 j4,n1,t1.wb,?_,?_,b1⟩
   ·rw[ht1]; unfold TM.zon; rw[if_pos rfl,if_neg (by rw[hoz]; decide)]; exact T2
   ·rw[ht1]; unfold TM.zon; rw[if_pos rfl,if_neg (by rw[hoz]; decide)]; exact⟨W1.sh,W1.no⟩
  | true =>
   obtain⟨cc,zz,hcz⟩:=W1.sh;obtain⟨v,h',e67,rfl,z1,z2,nb,z3,z4⟩:=(c67 hE (lim:=lim) C.hLn T2 (k:=8) (c:=cc) (z:=zz) hcz W1.no (.inr rfl) hlim real mono).out;have xn2:∀y,(X.set tb y)[h.length]?=some (.cells true [.int .i64 real,.int .i64 mono]):=fun y=>(set_ne (Ne.symm hne)).trans xn;simp only[TM.cs,hoz,hp] at hb1 e67;simp only[push_cast,g0,g2,g4,g6,hb1,x6,set_get lX,e67,xn2,simprocAttr];simp only[List.length_set] at z1 z2 z3;refine⟨rfl,by omega,fun j j1 j2 j3 j4=>?_,n1,some nb,?_,?_,.inr ⟨nb,rfl,by omega⟩⟩
   ·rw[z2 j (by omega) j2 (fun e=>?_),set_ne (Ne.symm j2)]
    ·exact fr j j1 j2 j3 j4
    ·have e':t1.wb=some j:=e;rcases b1 with b1 | ⟨b,b1,b2⟩
     ·exact j4 (by rw[<- b1,e'])
     ·have:b=j:=by rw[b1] at e'; injection e'
      omega
   ·rw[ht1]; unfold TM.zon; rw[if_pos rfl,if_pos hoz]; exact z4
   ·rw[ht1]; unfold TM.zon; rw[if_pos rfl,if_pos hoz]; exact⟨wnew_wl (.inr rfl) W1.sh,fun e=>absurd e (wnew_ne 8 real t1.ws)⟩
end
section
open Tb
variable {E:Env}(C:Conds E){lim:Nat}{h H0:Hp}{F:Nat->Prop}
include C
theorem fire_ok {k:KN}{x:TK}{R M:Int}(A:x.Asked E H0 k.z)(hx:x.Ok)(w1:-9223372036854775808<=R-k.late)(w2:R-k.late<=9223372036854775807):(fireX E H0 k R M x).Ok/\(fireX E H0 k R M x).kind=x.kind/\(fireX E H0 k R M x).spec=x.spec/\(fireX E H0 k R M x).text=x.text:=by
 unfold fireX;cases hd:dueK E H0 k x with
 | none=>exact⟨hx,rfl,rfl,rfl⟩
 | some p =>
  obtain⟨r,n⟩:=p;have rg:=dueK_rg (h:=H0) C hx A hd;show(if aroundF n k.late k.acc=true/\n+k.late<=(if r=true then R else M) then(if r=true then { x with base:=IntKind.i64.wrap (R-k.late) } else { x with spent:=n }) else x:TK).Ok/\(if aroundF n k.late k.acc=true/\n+k.late<=(if r=true then R else M) then(if r=true then { x with base:=IntKind.i64.wrap (R-k.late) } else { x with spent:=n }) else x:TK).kind=_/\(if aroundF n k.late k.acc=true/\n+k.late<=(if r=true then R else M) then(if r=true then { x with base:=IntKind.i64.wrap (R-k.late) } else { x with spent:=n }) else x:TK).spec=_/\(if aroundF n k.late k.acc=true/\n+k.late<=(if r=true then R else M) then(if r=true then { x with base:=IntKind.i64.wrap (R-k.late) } else { x with spent:=n }) else x:TK).text=_
  by_cases hc:aroundF n k.late k.acc=true/\n+k.late<=(if r=true then R else M)
  ·rw[if_pos hc]
   by_cases hr:r=true
   ·rw[if_pos hr];exact⟨⟨hx.span,by show i64r (IntKind.i64.wrap _); rw[wrap64 (by omega) (by omega)]; exact⟨w1,w2⟩,hx.spent⟩,rfl,rfl,rfl⟩
   ·rw[if_neg hr];exact⟨⟨hx.span,hx.base,⟨by show _<=n; omega,by show n<=_; omega⟩⟩,rfl,rfl,rfl⟩
  ·rw[if_neg hc];exact⟨hx,rfl,rfl,rfl⟩
end
section
open Tb
structure NV (E:Env)(H0:Hp)(F:Nat->Prop)(tb nb:Nat)(Z:Option ZN)(lv:Int)(rb:Option Nat)(t:TM)(R M:Int)(X:Hp):Prop where
 T:t.In tb X
 W:t.Wt
 c:Ctx H0 F X
 k:t.k.Ok
 kl:t.k.late=lv
 kz:t.k.z=Z
 xs:∀x∈t.xs,x.Ok/\AskF E H0 F Z x
 act:t.act=true
 rb:t.rb=rb
 wb:∀b,t.wb=some b->nb<b
 now:X[nb]?=some (.cells true [.int .i64 R,.int .i64 M])
structure NF (H0:Hp)(F:Nat->Prop)(tb nb:Nat)(rb:Option Nat):Prop where
 ft:¬ F tb
 fr:∀b,rb=some b->¬ F b/\b<nb
 fl:∀j,F j->j<nb
 tn:tb<nb
 le:H0.length<=nb
theorem TM.In.set {t:TM}{tb nb:Nat}{X:Hp}(T:t.In tb X)(h1:nb≠tb)(h2:t.rb≠some nb)(h3:t.wb≠some nb)(y:Blk):t.In tb (X.set nb y):=by
 refine⟨(set_ne h1).trans T.blk,?_,?_,T.n,T.m⟩
 ·have:=T.row;cases hrb:t.rb with
  | none=>rw[hrb] at this; exact this
  | some b=>rw[hrb] at this; exact⟨this.1,(set_ne (fun e=>h2 (by rw[hrb,e]))).trans this.2⟩
 ·have:=T.wai;cases hwb:t.wb with
  | none=>rw[hwb] at this; exact this
  | some b=>rw[hwb] at this; exact⟨this.1,this.2.1,(set_ne (fun e=>h3 (by rw[hwb,e]))).trans this.2.2⟩
variable {E:Env}(C:Conds E){lim:Nat}{h H0:Hp}{F:Nat->Prop}
include C
end
section
open Tb
theorem zmem_lt {Z:Option ZN}{W:Hp}(H:zshut Z W){b:Nat}(hb:zmem Z b):b<W.length:=by
 cases Z with
 | none=>cases hb
 | some Y =>
  have S:=H Y rfl
  have flat:∀ {a:Option Addr},FlatRow W a->∀A,a=some A->A.block<W.length:=fun hf A hA=>by
   obtain⟨b,own,cs,rfl,e,-⟩:=hf A hA;exact lt_of_get e
  rcases hb with rfl | ⟨R,hR,rfl⟩ | ⟨A,hA,rfl⟩
  ·obtain⟨own,e⟩:=S.blk; exact lt_of_get e
  ·obtain⟨own,e⟩:=S.rule R hR; exact lt_of_get e
  ·rcases hA with h | h | h
   ·exact flat S.ta A h
   ·exact flat S.ma A h
   ·exact flat S.xa A h
variable {E:Env}(C:Conds E){lim:Nat}{h H0:Hp}{F:Nat->Prop}
include C
end
section
open Tb
structure TwoT (E:Env)(H0:Hp)(Z:Option ZN)(t u:TM)(ex:List TG):Prop where
 raw:u.xs.map TK.raw=t.xs.map TK.raw++ex
 ex:ex.length<=1
 k:u.k=t.k
 z:t.k.z=Z
 ok:i64r t.k.late/\i64r t.k.acc
 base:∀x∈t.xs,∀y∈u.xs,x.base=y.base/\x.spent=y.spent
 t1:∀x∈t.xs,x.Ok/\x.Asked E H0 Z
 u1:∀x∈u.xs,x.Ok/\x.Asked E H0 Z
 tw:t.ws=[]
 uw:u.ws=[]
variable {E:Env}(C:Conds E){lim:Nat}{h H0:Hp}{F:Nat->Prop}
include C
theorem due_same {k:KN}{x y:TK}(hr:x.raw=y.raw)(hb:x.base=y.base)(hs:x.spent=y.spent)(ox:i64r x.base)(Ax:x.Asked E H0 k.z)(Ay:y.Asked E H0 k.z):dueK E H0 k x=dueK E H0 k y:=by
 have e1:y.kind=x.kind:=(congrArg TG.kind hr).symm;have e2:y.span=x.span:=(congrArg TG.span hr).symm;have e3:y.text=x.text:=(congrArg TG.text hr).symm;unfold dueK;rw[e1]
 by_cases hk:x.kind=1
 ·rw[if_pos hk,if_pos hk,<- hb];obtain⟨lo,hi,A⟩:=Ax hk;obtain⟨lo',hi',B⟩:=Ay (e1.trans hk);rw[e3] at B;rw[aft_same C.hE C.hQ C.hO C.hS C.hN A B (fun _ _=>rfl) ox.1 ox.2]
 ·rw[if_neg hk,if_neg hk,e2,hs]
end
section
open Tb
theorem bytes_refl (s:ByteArray):(s==s)=true:=by
 cases s with
 | mk d =>
  show(d==d)=true;simp
theorem wds_sl {X:Hp}{b:Nat}{l m:List (Bool×Int×Int)}(hb:X[b]?=some (.cells true (wds (l++m)))):SlK 3 X (some ⟨b,0,none⟩) l.length 3 fun j=>wd (l.getD j default):=fun _=>⟨b,0,true,_,rfl,rfl,hb,by rw[wds_len,List.length_append]; omega,fun j hj=>by
 rw[Nat.zero_add];refine chunk_get (f:=wd) (fun _=>rfl) (l++m) j _ ?_;rw[List.getElem?_append_left hj,List.getD_eq_getElem?_getD,List.getElem?_eq_getElem hj];rfl⟩
theorem TM.In.on {t:TM}{tb:Nat}{h X:Hp}(T:t.In tb h)(h1:X[tb]?=h[tb]?)(h2:∀b,t.rb=some b->X[b]?=h[b]?)(h3:∀b,t.wb=some b->X[b]?=h[b]?):t.In tb X:=by
 refine⟨h1.trans T.blk,?_,?_,T.n,T.m⟩
 ·have:=T.row;cases hrb:t.rb with
  | none=>rw[hrb] at this; exact this
  | some b=>rw[hrb] at this; exact⟨this.1,(h2 b hrb).trans this.2⟩
 ·have:=T.wai;cases hwb:t.wb with
  | none=>rw[hwb] at this; exact this
  | some b=>rw[hwb] at this; exact⟨this.1,this.2.1,(h3 b hwb).trans this.2.2⟩
variable {E:Env}(C:Conds E){lim:Nat}{h H0:Hp}{F:Nat->Prop}
include C
end
section
open Tb
structure DR where
 l:Nat
 s:Nat
 b:Nat
 p:Nat
structure DK where
 c:CD
 k:KN
 act:Bool
 r:Option DR
 ys:List TK
 clk:Int
 zon:Int
def DK.cs (d:DK):List Value:=d.c.cs++[rv (d.r.map DR.l) d.ys.length 3,rv (d.r.map DR.s) d.ys.length 9,.int .i64 d.k.late,.bool d.act,.int .i64 d.k.up,.int .i64 d.k.dn,.int .i64 d.k.ac,.int .i64 d.k.st,rv (d.r.map DR.b) d.ys.length 1,rv (d.r.map DR.p) d.ys.length 1,zv d.k.z,.int .i64 d.clk,.int .i64 d.zon]
def rawc (y:TK):List Value:=y.raw.cs
def specc (y:TK):List Value:=y.spec.cv
def basec (y:TK):List Value:=[.int .i64 y.base]
def spentc (y:TK):List Value:=[.int .i64 y.spent]
structure DK.In (d:DK)(db:Nat)(h:Hp):Prop where
 blk:h[db]?=some (.cells true d.cs)
 acc:d.k.acc=d.c.acc
 row:match d.r with
  | none=>d.ys=[]
  | some r=>db<r.l/\r.l<r.s/\r.s<r.b/\r.b<r.p/\h[r.l]?=some (.cells true (d.ys.flatMap rawc))/\h[r.s]?=some (.cells true (d.ys.flatMap specc))/\h[r.b]?=some (.cells true (d.ys.flatMap basec))/\h[r.p]?=some (.cells true (d.ys.flatMap spentc))
 n:d.ys.length<=1000
theorem DK.In.get {d:DK}{db:Nat}{h:Hp}(D:d.In db h){i:Nat}{y:TK}(hy:d.ys[i]?=some y):∃r,d.r=some r/\db<r.l/\r.l<r.s/\r.s<r.b/\r.b<r.p/\h[r.l]?=some (.cells true (d.ys.flatMap rawc))/\h[r.s]?=some (.cells true (d.ys.flatMap specc))/\h[r.b]?=some (.cells true (d.ys.flatMap basec))/\h[r.p]?=some (.cells true (d.ys.flatMap spentc)):=by
 have T:=D.row;cases hr:d.r with
 | none =>
  rw[hr] at T;simp only at T;rw[T] at hy;cases hy
 | some r =>
  rw[hr] at T;exact⟨r,rfl,T⟩
theorem DK.In.on {d:DK}{db:Nat}{h X:Hp}(D:d.In db h)(h1:X[db]?=h[db]?)(h2:∀r,d.r=some r->X[r.l]?=h[r.l]?/\X[r.s]?=h[r.s]?/\X[r.b]?=h[r.b]?/\X[r.p]?=h[r.p]?):d.In db X:=by
 refine⟨h1.trans D.blk,D.acc,?_,D.n⟩;have T:=D.row;cases hr:d.r with
 | none=>rw[hr] at T; exact T
 | some r =>
  rw[hr] at T;obtain⟨a1,a2,a3,a4,b1,b2,b3,b4⟩:=T;obtain⟨e1,e2,e3,e4⟩:=h2 r hr;exact⟨a1,a2,a3,a4,e1.trans b1,e2.trans b2,e3.trans b3,e4.trans b4⟩
theorem DK.In.lt {d:DK}{db:Nat}{h:Hp}(D:d.In db h):db<h.length/\∀r,d.r=some r->r.p<h.length:=by
 refine⟨lt_of_get D.blk,fun r hr=>?_⟩;have T:=D.row;rw[hr] at T;exact lt_of_get T.2.2.2.2.2.2.2
theorem DK.In.of {d:DK}{db:Nat}{h X:Hp}(D:d.In db h)(hX:∀j,j<h.length->X[j]?=h[j]?):d.In db X:=by
 have l:=D.lt;refine D.on (hX _ l.1) fun r hr=>?_;have:=l.2 r hr;have T:=D.row;rw[hr] at T;obtain⟨a1,a2,a3,a4,-⟩:=T;exact⟨hX _ (by omega),hX _ (by omega),hX _ (by omega),hX _ (by omega)⟩
theorem DK.In.put {d d2:DK}{db:Nat}{X:Hp}(D:d.In db X)(e1:d2.r=d.r)(e2:d2.ys=d.ys)(e3:d2.k.acc=d2.c.acc):d2.In db (X.set db (.cells true d2.cs)):=by
 refine⟨set_get D.lt.1,e3,?_,by rw[e2]; exact D.n⟩;have T:=D.row;rw[e1,e2];cases hr:d.r with
 | none=>rw[hr] at T; exact T
 | some r =>
  rw[hr] at T;obtain⟨a1,a2,a3,a4,b1,b2,b3,b4⟩:=T;exact⟨a1,a2,a3,a4,(set_ne (by omega)).trans b1,(set_ne (by omega)).trans b2,(set_ne (by omega)).trans b3,(set_ne (by omega)).trans b4⟩
theorem flat_set1 {f g:TK->List Value}(hf:∀x,(f x).length=1){ys:List TK}{i:Nat}{y y':TK}{v:Value}(hy:ys[i]?=some y)(hs:f y'=[v]):(ys.flatMap f).set i v=(ys.set i y').flatMap f:=by
 have e:=chunk_set hf ys i y y' 0 v hy (by omega) (by
  have:=hf y
  match hq:f y with
  | [w]=>exact hs.symm
  | []=>rw[hq] at this; cases this
  | _::_::_=>rw[hq] at this; simp at this)
 simpa using e
theorem flat_same {f:TK->List Value}{k:Nat}(hf:∀x,(f x).length=k)(hk:0<k){ys:List TK}{i:Nat}{y y':TK}(hy:ys[i]?=some y)(hs:f y'=f y):(ys.set i y').flatMap f=ys.flatMap f:=by
 obtain⟨v,hv⟩:∃v,(f y)[0]?=some v:=⟨_,List.getElem?_eq_getElem (by rw[hf]; exact hk)⟩
 have hv':(f y).set 0 v=f y:=by
  obtain⟨h1,h2⟩:=List.getElem?_eq_some_iff.1 hv;rw[<- h2]; simp
 have e:=chunk_set hf ys i y y' 0 v hy hk (hv'.trans hs.symm);have e2:=chunk_set hf ys i y y 0 v hy hk hv'
 have:ys.set i y=ys:=by
  obtain⟨h1,h2⟩:=List.getElem?_eq_some_iff.1 hy;rw[<- h2]; simp
 rw[<- e,e2,this]
theorem rawc_len (y:TK):(rawc y).length=3:=rfl
theorem specc_len (y:TK):(specc y).length=9:=rfl
theorem basec_len (y:TK):(basec y).length=1:=rfl
theorem spentc_len (y:TK):(spentc y).length=1:=rfl
theorem DK.In.base {d:DK}{db:Nat}{X:Hp}(D:d.In db X){i:Nat}{y:TK}{r:DR}(hr:d.r=some r)(hy:d.ys[i]?=some y)(v:Int):({ d with ys:=d.ys.set i { y with base:=v } }:DK).In db (X.set r.b (.cells true ((d.ys.flatMap basec).set i (.int .i64 v)))):=by
 have T:=D.row;have l:=D.lt;rw[hr] at T;obtain⟨a1,a2,a3,a4,b1,b2,b3,b4⟩:=T;refine⟨?_,D.acc,?_,by simpa using D.n⟩
 ·rw[set_ne (by omega)];have:=D.blk;simp only[DK.cs,List.length_set] at this ⊢;exact this
 ·simp only[hr];refine⟨a1,a2,a3,a4,?_,?_,?_,?_⟩
  ·rw[set_ne (by omega),flat_same (f:=rawc) (y':={ y with base:=v }) rawc_len (by omega) hy rfl]; exact b1
  ·rw[set_ne (by omega),flat_same (f:=specc) (y':={ y with base:=v }) specc_len (by omega) hy rfl]; exact b2
  ·rw[set_get (lt_of_get b3),flat_set1 (f:=basec) (g:=basec) (y':={ y with base:=v }) basec_len hy rfl]
  ·rw[set_ne (by omega),flat_same (f:=spentc) (y':={ y with base:=v }) spentc_len (by omega) hy rfl]; exact b4
theorem DK.In.spent {d:DK}{db:Nat}{X:Hp}(D:d.In db X){i:Nat}{y:TK}{r:DR}(hr:d.r=some r)(hy:d.ys[i]?=some y)(v:Int):({ d with ys:=d.ys.set i { y with spent:=v } }:DK).In db (X.set r.p (.cells true ((d.ys.flatMap spentc).set i (.int .i64 v)))):=by
 have T:=D.row;have l:=D.lt;rw[hr] at T;obtain⟨a1,a2,a3,a4,b1,b2,b3,b4⟩:=T;refine⟨?_,D.acc,?_,by simpa using D.n⟩
 ·rw[set_ne (by omega)];have:=D.blk;simp only[DK.cs,List.length_set] at this ⊢;exact this
 ·simp only[hr];refine⟨a1,a2,a3,a4,?_,?_,?_,?_⟩
  ·rw[set_ne (by omega),flat_same (f:=rawc) (y':={ y with spent:=v }) rawc_len (by omega) hy rfl]; exact b1
  ·rw[set_ne (by omega),flat_same (f:=specc) (y':={ y with spent:=v }) specc_len (by omega) hy rfl]; exact b2
  ·rw[set_ne (by omega),flat_same (f:=basec) (y':={ y with spent:=v }) basec_len (by omega) hy rfl]; exact b3
  ·rw[set_get (lt_of_get b4),flat_set1 (f:=spentc) (g:=spentc) (y':={ y with spent:=v }) spentc_len hy rfl]
theorem TK.raw_cs (y:TK):rawc y=[.int .u8 y.kind,.int .i64 y.span,.string y.text]:=rfl
variable {E:Env}(C:Conds E){lim:Nat}{h H0:Hp}{F:Nat->Prop}
include C
theorem c68 {d:DK}{db:Nat}(D:d.In db h)(hk:d.k.Ok){i:Nat}{y:TK}(hy:d.ys[i]?=some y)(hyo:y.Ok)(A:AskF E H0 F d.k.z y)(c:Ctx H0 F h) :
  evI E lim (.func 68) [.pointer (some ⟨db,0,none⟩),.int .i64 i] h=some (winR d.k.late d.k.acc (dueK E H0 d.k y),h):=by
 have hE:=C.hE;have hi:=lt_of_getL hy;obtain⟨r,hr,a1,a2,a3,a4,b1,b2,b3,b4⟩:=D.get hy;have hb':∀l,(h++l)[db]?=some (.cells true d.cs):=fun l=>get_old D.blk;have v1:∀l,(h++l)[r.l]?=some (.cells true (d.ys.flatMap rawc)):=fun l=>get_old b1;have v2:∀l,(h++l)[r.s]?=some (.cells true (d.ys.flatMap specc)):=fun l=>get_old b2;have v3:∀l,(h++l)[r.b]?=some (.cells true (d.ys.flatMap basec)):=fun l=>get_old b3;have v4:∀l,(h++l)[r.p]?=some (.cells true (d.ys.flatMap spentc)):=fun l=>get_old b4;have u1:((d.ys.flatMap rawc).drop (i*3)).take 3=rawc y:=chunk_get rawc_len _ _ _ hy;have u2:((d.ys.flatMap specc).drop (i*9)).take 9=specc y:=chunk_get specc_len _ _ _ hy;have u3:(d.ys.flatMap basec)[i]?=some (.int .i64 y.base):=get1 (by have:=chunk_get basec_len _ _ _ hy; rwa [Nat.mul_one] at this);have u4:(d.ys.flatMap spentc)[i]?=some (.int .i64 y.spent):=get1 (by have:=chunk_get spentc_len _ _ _ hy; rwa [Nat.mul_one] at this);have w1:(i*3+3<=(d.ys.flatMap rawc).length)=True:=eq_true (by rw[chunk_len rawc_len]; omega);have w2:(i*9+9<=(d.ys.flatMap specc).length)=True:=eq_true (by rw[chunk_len specc_len]; omega);have z2:(0<=(i:Int))=True:=by simp
 have z3:((i:Int)<d.ys.length)=True:=eq_true (by omega);have q:=fun l=>c119 C (lim:=h.length) (h:=h++l) d.k y hyo hk (A.at (c.app l));have q':∀l,dueK E (h++l) d.k y=dueK E H0 d.k y:=fun l=>dueK_at C hyo A (c.app l);simp only[q'] at q;simp only[TK.raw_cs,specc,SD.cv] at u1 u2;have hacc:=D.acc;simp only[DK.cs,CD.cs,hr,Option.map_some,rv,List.cons_append,List.nil_append,<- hacc] at hb';cases hd:dueK E H0 d.k y with
 | none =>
  rw[hd] at q;simp only[SD.cv] at q;rw[hE.fn T68]; simp only[push_cast,ac68,hb',v1,v2,v3,v4,u1,u2,u3,u4,w1,w2,z2,z3,hi,q,sureL,winR,Nat.mul_one,simprocAttr]
 | some p =>
  obtain⟨b,n⟩:=p;have rg:=dueK_rg (h:=h) C hyo (A.at c) (r:=b) (n:=n) (by rw[dueK_at C hyo A c]; exact hd);rw[hd] at q;simp only[SD.cv] at q;have e120:=fun l=>c120 hE (lim:=h.length) (h:=h++l) n d.k.late d.k.acc (by omega) (by omega) hk.late.1 hk.late.2 hk.acc.1 hk.acc.2;rw[hE.fn T68]; simp only[push_cast,ac68,hb',v1,v2,v3,v4,u1,u2,u3,u4,w1,w2,z2,z3,hi,q,sureL,winR,e120,Nat.mul_one,simprocAttr]
end
section
open Tb
def opt1 {α:Type}(n:Int)(x:α):List α:=if 0<=n then[x] else[]
noncomputable def DK.wins (E:Env)(H0:Hp)(d:DK):List (Bool×Int×Int):=d.ys.filterMap (winK E H0 d.k)++(opt1 d.clk (true,d.clk,d.clk)++opt1 d.zon (true,d.zon,d.zon))
theorem DK.In.rvl {d:DK}{db:Nat}{h:Hp}(D:d.In db h):∃a e,rv (d.r.map DR.l) d.ys.length 3=.slice a d.ys.length e:=rv_ex fun e=>by
 have T:=D.row;cases hr:d.r with
 | none=>rw[hr] at T; simp only at T; rw[T]; rfl
 | some r=>rw[hr] at e; cases e
theorem fm_take {β:Type}{p:TK->Option β}{xs:List TK}{i:Nat}{x:TK}(hxi:xs[i]?=some x):((xs.take (i+1)).filterMap p)=(xs.take i).filterMap p++(match p x with | some y=>[y] | none=>[]):=by
 rw[List.take_add_one,hxi,List.filterMap_append];simp only[Option.toList]
 congr 1
 simp only[List.filterMap_cons,List.filterMap_nil];split<;>simp_all
variable {E:Env}(C:Conds E){lim:Nat}{h H0:Hp}{F:Nat->Prop}
include C
theorem loop36 {d:DK}{db:Nat}(D:d.In db h)(hk:d.k.Ok)(hx:∀x∈d.ys,x.Ok/\AskF E H0 F d.k.z x)(c0:Ctx H0 F h)
  {f:Fr}(f0:f.rd 0=.pointer (some ⟨db,0,none⟩))(f3:f.rd 3=.slice none 0 0)(f4:f.rd 4=.int .i64 0){P:AX->Fr->Hp->Prop}
  (hP:∀f' X fb,(∀j,j<h.length->X[j]?=h[j]?)->h.length<=X.length->WRow X h.length fb (d.ys.filterMap (winK E H0 d.k))->f'.rd 0=.pointer (some ⟨db,0,none⟩)->f'.rd 3=rv fb (d.ys.filterMap (winK E H0 d.k)).length 3->P (.exit 0) f' X):Post (evK E lim (.loop lp36_0) f h) P:=by
 have hE:=C.hE
 refine loop_post hE.mono (fun q g X=>∃(i:Nat) (fb:Option Nat),i<=d.ys.length/\(∀j,j<h.length->X[j]?=h[j]?)/\h.length<=X.length/\WRow X h.length fb ((d.ys.take i).filterMap (winK E H0 d.k)) /\
  g.rd 0=.pointer (some ⟨db,0,none⟩)/\g.rd 3=rv fb ((d.ys.take i).filterMap (winK E H0 d.k)).length 3/\g.rd 4=.int .i64 i/\d.ys.length-i=q) ?_ d.ys.length _ _ ⟨0,none,Nat.zero_le _,fun _ _=>rfl,Nat.le_refl _,rfl,f0,f3,f4,rfl⟩
 clear f0 f3 f4;rintro q g X ⟨i,fb,hi,xo,xl,xf,g0,g3,g4,hq⟩;have DX:=D.of xo;have hn:=D.n;obtain⟨ra,re,hra⟩:=D.rvl;have xb:=DX.blk;simp only[DK.cs,CD.cs,List.cons_append,List.nil_append,hra] at xb
 by_cases hlt:(i:Int)<d.ys.length
 ·have hi':i<d.ys.length:=by omega
  obtain⟨x,hxi⟩:∃x,d.ys[i]?=some x:=⟨_,List.getElem?_eq_getElem hi'⟩;obtain⟨xok,xask⟩:=hx x (List.mem_of_getElem? hxi);have a8:=wn1 (i:=i);have cX:Ctx H0 F X:=c0.of fun j hj=>xo j (c0.L j hj);have e68:=c68 C (lim:=lim) (h:=X) DX hk hxi xok xask cX;have t_len:=fm_take (p:=winK E H0 d.k) hxi;cases hd:dueK E H0 d.k x with
  | none =>
   rw[hd] at e68;simp only[winR] at e68
   have E2:((d.ys.take (i+1)).filterMap (winK E H0 d.k))=(d.ys.take i).filterMap (winK E H0 d.k):=by
    rw[t_len,show winK E H0 d.k x=none by unfold winK; rw[hd]]; exact List.append_nil _
   simp only[push_cast,lp36_0,g0,g3,g4,hlt,a8,xb,e68,simprocAttr];exact⟨_,(by omega:d.ys.length-(i+1)<q),i+1,fb,by omega,fun j j1=>by rw[get_lt (by omega)]; exact xo j j1,by first | omega | (simp; omega),by rw[E2]; exact xf.grow _,by rw[E2],rfl,rfl⟩
  | some p =>
   obtain⟨r,n⟩:=p;rw[hd] at e68;cases ha:aroundF n d.k.late d.k.acc with
   | false =>
    simp only[winR,ha,Bool.false_eq_true,if_false] at e68
    have E2:((d.ys.take (i+1)).filterMap (winK E H0 d.k))=(d.ys.take i).filterMap (winK E H0 d.k):=by
     rw[t_len,show winK E H0 d.k x=none by unfold winK; rw[hd]; simp[ha]]; exact List.append_nil _
    simp only[push_cast,lp36_0,g0,g3,g4,hlt,a8,xb,e68,simprocAttr];exact⟨_,(by omega:d.ys.length-(i+1)<q),i+1,fb,by omega,fun j j1=>by rw[get_lt (by omega)]; exact xo j j1,by first | omega | (simp; omega),by rw[E2]; exact xf.grow _,by rw[E2],rfl,rfl⟩
   | true =>
    simp only[winR,ha,if_true] at e68
    have E2:((d.ys.take (i+1)).filterMap (winK E H0 d.k))=(d.ys.take i).filterMap (winK E H0 d.k)++[(r,n+d.k.late,n+d.k.late+d.k.acc)]:=by
     rw[t_len,show winK E H0 d.k x=some (r,n+d.k.late,n+d.k.late+d.k.acc) by unfold winK; rw[hd]; simp[ha]]
    cases fb with
    | none =>
     have xf':((d.ys.take i).filterMap (winK E H0 d.k))=[]:=xf;simp only[rv] at g3;simp only[push_cast,lp36_0,g0,g3,g4,hlt,a8,xb,e68,srcOf,simprocAttr];refine⟨_,(by omega:d.ys.length-(i+1)<q),i+1,some (X.length+3),by omega,fun j j1=>by rw[get_lt (by omega)]; exact xo j j1,by first | omega | (simp; omega),⟨by omega,?_⟩,?_,rfl,rfl⟩
     ·rw[get_appC (n:=X.length) (k:=3) rfl,E2,xf']; rfl
     ·rw[E2,xf']; rfl
    | some b =>
     obtain⟨xf1,xf2⟩:=xf;have lb:=lt_of_get xf2;have hfl:((d.ys.take i).filterMap (winK E H0 d.k)).length<=1000:=Nat.le_trans (List.length_filterMap_le _ _) (by first | omega | (simp; omega));generalize hfr:((d.ys.take i).filterMap (winK E H0 d.k))=fr at *;simp only[rv] at g3;have k1:∀l,(X++l)[b]?=some (.cells true (wds fr)):=fun l=>get_old xf2;have k2:∀l y,(X++l).set b y=X.set b y++l:=fun l y=>set_old lb;have k9:(fr.length*3=(wds fr).length)=True:=eq_true (wds_len fr).symm;have k10:((fr.length+1)*24<=140737488355328)=True:=eq_true (by omega);simp only[push_cast,lp36_0,g0,g3,g4,hlt,a8,xb,e68,srcOf,k1,k2,k9,k10,simprocAttr];refine⟨_,(by omega:d.ys.length-(i+1)<q),i+1,some (X.length+3),by omega,fun j j1=>by rw[get_lt (by first | omega | (simp; omega)),set_ne (by omega)]; exact xo j j1,by first | omega | (simp; omega),⟨by omega,?_⟩,?_,rfl,rfl⟩
     ·rw[get_appC (n:=X.length) (k:=3) (by simp),E2]; simp[wds,wd]
     ·rw[E2]; simp[rv]
 ·simp only[push_cast,lp36_0,g0,g4,xb,hlt,simprocAttr];have:i=d.ys.length:=by omega
  subst this;rw[List.take_length] at xf g3;refine hP _ X fb xo xl xf ?_ ?_<;>first | assumption | simp only[push_cast,g0,g3,simprocAttr]
theorem c36_off {d:DK}{db:Nat}(D:d.In db h)(ha:d.act=false):evI E lim (.func 36) [.pointer (some ⟨db,0,none⟩)] h=some (.slice none 0 0,h):=by
 have hE:=C.hE;have hb:=D.blk;simp only[DK.cs,CD.cs,List.cons_append,List.nil_append,ha] at hb;rw[hE.fn T36]; simp only[push_cast,ac36,hb,simprocAttr]
theorem c36 {d:DK}{db:Nat}(D:d.In db h)(hk:d.k.Ok)(hx:∀x∈d.ys,x.Ok/\AskF E H0 F d.k.z x)(c:Ctx H0 F h)(ha:d.act=true) :
  PostV (evI E lim (.func 36) [.pointer (some ⟨db,0,none⟩)] h) fun v h'=>∃fb,v=rv fb (d.wins E H0).length 3/\WRow h' h.length fb (d.wins E H0)/\(∀j,j<h.length->h'[j]?=h[j]?)/\h.length<=h'.length:=by
 have hE:=C.hE;have hb:=D.blk;simp only[DK.cs,CD.cs,List.cons_append,List.nil_append,ha] at hb;refine post_fn hE T36 (Nat.le_of_ble_eq_true rfl) ?_;show Post (evK E lim ac36 _ _) _;unfold ac36;refine post_mid hE.mono (fun g W=>h=W/\g.rd 0=.pointer (some ⟨db,0,none⟩)) (by simp only[push_cast,simprocAttr]) ?_;rintro g W ⟨rfl,g0⟩;refine post_mid hE.mono (fun g W=>h=W/\g.rd 0=.pointer (some ⟨db,0,none⟩)/\g.rd 3=.slice none 0 0) (by simp only[push_cast,g0,simprocAttr]) ?_;clear g0 g;rintro g W ⟨rfl,g0,g3⟩;refine post_mid hE.mono (fun g W=>h=W/\g.rd 0=.pointer (some ⟨db,0,none⟩)/\g.rd 3=.slice none 0 0) (by simp only[push_cast,g0,g3,hb,simprocAttr]) ?_;clear g0 g3 g;rintro g W ⟨rfl,g0,g3⟩;obtain⟨L,hL⟩:∃L,d.ys.filterMap (winK E H0 d.k)=L:=⟨_,rfl⟩
 have Ll:L.length<=1000:=by
  have:=List.length_filterMap_le (winK E H0 d.k) d.ys;have:=D.n;rw[hL] at *;omega
 unfold DK.wins;refine post_mid hE.mono (fun g X=>∃fb,(∀j,j<h.length->X[j]?=h[j]?)/\h.length<=X.length/\WRow X h.length fb L/\g.rd 0=.pointer (some ⟨db,0,none⟩)/\g.rd 3=rv fb L.length 3) ?_ ?_
 ·simp only[push_cast,g0,g3,simprocAttr];refine loop36 C D hk hx c (by simp[g0]) (by simp[g3]) (by simp) ?_;rw[hL];intro f X fb xo xl xf q0 q3;simp only[push_cast,simprocAttr];exact⟨fb,xo,xl,xf,q0,q3⟩
 rw[hL];clear g0 g3 g;rintro g X ⟨fb,xo,xl,xf,g0,g3⟩;have xb:=(xo db (lt_of_get hb)).trans hb;refine post_mid hE.mono (fun g X=>∃fb,(∀j,j<h.length->X[j]?=h[j]?)/\h.length<=X.length/\WRow X h.length fb (L++opt1 d.clk (true,d.clk,d.clk))/\g.rd 0=.pointer (some ⟨db,0,none⟩)/\g.rd 3=rv fb (L++opt1 d.clk (true,d.clk,d.clk)).length 3) ?_ ?_
 ·by_cases h0:d.clk>=0
  ·have e:opt1 d.clk (true,d.clk,d.clk)=[(true,d.clk,d.clk)]:=if_pos h0;rw[e];cases fb with
   | none =>
    have xf':L=[]:=xf;simp only[rv] at g3;simp only[push_cast,g0,g3,xb,h0,srcOf,simprocAttr];refine⟨some (X.length+1),fun j j1=>by rw[get_lt (by omega)]; exact xo j j1,by first | omega | (simp; omega),⟨by omega,?_⟩,?_⟩
    ·rw[get_appC (n:=X.length) (k:=1) rfl,xf']; rfl
    ·rw[xf']; simp only[push_cast,simprocAttr]; rfl
   | some b =>
    obtain⟨xf1,xf2⟩:=xf;simp only[rv] at g3;have lb:=lt_of_get xf2;have k1:∀l,(X++l)[b]?=some (.cells true (wds L)):=fun l=>get_old xf2;have k2:∀l y,(X++l).set b y=X.set b y++l:=fun l y=>set_old lb;have k9:(L.length*3=(wds L).length)=True:=eq_true (wds_len L).symm;have k10:((L.length+1)*24<=140737488355328)=True:=eq_true (by omega);simp only[push_cast,g0,g3,xb,k1,k2,h0,srcOf,k9,k10,simprocAttr];refine⟨some (X.length+1),fun j j1=>by rw[get_lt (by first | omega | (simp; omega)),set_ne (by omega)]; exact xo j j1,by first | omega | (simp; omega),⟨by omega,?_⟩,?_⟩
    ·rw[get_appC (n:=X.length) (k:=1) (by simp)]; simp[wds,wd]
    ·simp[rv]
  ·have e:opt1 d.clk (true,d.clk,d.clk)=[]:=if_neg h0;rw[e,List.append_nil];simp only[push_cast,g0,g3,xb,h0,simprocAttr];exact⟨fb,xo,xl,xf,by simp[g3]⟩
 clear g0 g3 g xo xl xf xb fb X;rintro g X ⟨fb,xo,xl,xf,g0,g3⟩;have xb:=(xo db (lt_of_get hb)).trans hb;rw[<- List.append_assoc]
 have Ll2:(L++opt1 d.clk (true,d.clk,d.clk)).length<=1001:=by
  rw[List.length_append];unfold opt1;split<;>simp<;>omega
 generalize L++opt1 d.clk (true,d.clk,d.clk)=L at *;refine post_mid hE.mono (fun g X=>∃fb,(∀j,j<h.length->X[j]?=h[j]?)/\h.length<=X.length/\WRow X h.length fb (L++opt1 d.zon (true,d.zon,d.zon))/\g.rd 3=rv fb (L++opt1 d.zon (true,d.zon,d.zon)).length 3) ?_ ?_
 ·by_cases h0:d.zon>=0
  ·have e:opt1 d.zon (true,d.zon,d.zon)=[(true,d.zon,d.zon)]:=if_pos h0;rw[e];cases fb with
   | none =>
    have xf':L=[]:=xf;simp only[rv] at g3;simp only[push_cast,g0,g3,xb,h0,srcOf,simprocAttr];refine⟨some (X.length+1),fun j j1=>by rw[get_lt (by omega)]; exact xo j j1,by first | omega | (simp; omega),⟨by omega,?_⟩,?_⟩
    ·rw[get_appC (n:=X.length) (k:=1) rfl,xf']; rfl
    ·rw[xf']; simp only[push_cast,simprocAttr]; rfl
   | some b =>
    obtain⟨xf1,xf2⟩:=xf;simp only[rv] at g3;have lb:=lt_of_get xf2;have k1:∀l,(X++l)[b]?=some (.cells true (wds L)):=fun l=>get_old xf2;have k2:∀l y,(X++l).set b y=X.set b y++l:=fun l y=>set_old lb;have k9:(L.length*3=(wds L).length)=True:=eq_true (wds_len L).symm;have k10:((L.length+1)*24<=140737488355328)=True:=eq_true (by omega);simp only[push_cast,g0,g3,xb,k1,k2,h0,srcOf,k9,k10,simprocAttr];refine⟨some (X.length+1),fun j j1=>by rw[get_lt (by first | omega | (simp; omega)),set_ne (by omega)]; exact xo j j1,by first | omega | (simp; omega),⟨by omega,?_⟩,?_⟩
    ·rw[get_appC (n:=X.length) (k:=1) (by simp)]; simp[wds,wd]
    ·simp[rv]
  ·have e:opt1 d.zon (true,d.zon,d.zon)=[]:=if_neg h0;rw[e,List.append_nil];simp only[push_cast,g0,g3,xb,h0,simprocAttr];exact⟨fb,xo,xl,xf,by simp[g3]⟩
 clear g0 g3 g xo xl xf xb fb X;rintro g X ⟨fb,xo,xl,xf,g3⟩;simp only[push_cast,g3,simprocAttr];exact⟨fb,rfl,xf,xo,xl⟩
end
section
open Tb
noncomputable def elaK (E:Env)(H0:Hp)(k:KN)(real mono:Int)(x:TK):Option (Int×Int):=(elap E H0 k real mono x).map fun n=>(x.kind,n)
def oc (o:Option (Int×Int)):List Value:=[.int .u8 (o.getD (0,0)).1,.int .i64 (o.getD (0,0)).2]
noncomputable def DK.fire (E:Env)(H0:Hp)(d:DK)(real mono:Int):DK:={ d with ys:=d.ys.map (fireX E H0 d.k real mono),clk:=-1,zon:=-1 }
noncomputable def DK.out (E:Env)(H0:Hp)(d:DK)(real mono:Int):List (Int×Int):=d.ys.filterMap (elaK E H0 d.k real mono)++(opt1 d.clk (7,d.clk)++opt1 d.zon (8,d.zon))
def DK.Fr (d:DK)(db:Nat)(h X:Hp):Prop:=∀j,j<h.length->j≠db->(∀r,d.r=some r->j≠r.b/\j≠r.p)->X[j]?=h[j]?
variable {E:Env}(C:Conds E){lim:Nat}{h H0:Hp}{F:Nat->Prop}
include C
theorem loop33 {d:DK}{db:Nat}(D0:d.In db h)(hk:d.k.Ok)(hx:∀x∈d.ys,x.Ok/\AskF E H0 F d.k.z x)(c0:Ctx H0 F h)(nF:∀r,d.r=some r->¬ F r.b/\¬ F r.p){real mono:Int}{X0:Hp}(hX0:X0=h++[.cells true [.int .i64 real,.int .i64 mono],.cells true [.int .u8 0,.int .i64 0],.cells true [.int .u8 0,.int .i64 0]])
  {f:Fr}(f0:f.rd 0=.pointer (some ⟨db,0,none⟩))(f3:f.rd 3=.pointer (some ⟨h.length,0,none⟩))(f4:f.rd 4=.pointer (some ⟨h.length+1,0,none⟩))(f6:f.rd 6=.pointer (some ⟨h.length+2,0,none⟩))(f7:f.rd 7=.bool false)(f8:f.rd 8=.int .i64 0){P:AX->Fr->Hp->Prop}
  (hP:∀f' X,({ d with ys:=d.ys.map (fireX E H0 d.k real mono) }:DK).In db X->(∀j,j<h.length->(∀r,d.r=some r->j≠r.b/\j≠r.p)->X[j]?=h[j]?)->h.length+3<=X.length->X[h.length+1]?=some (.cells true [.int .u8 0,.int .i64 0])->X[h.length+2]?=some (.cells true (oc (d.ys.filterMap (elaK E H0 d.k real mono)).head?)) ->
   f'.rd 0=.pointer (some ⟨db,0,none⟩)->f'.rd 4=.pointer (some ⟨h.length+1,0,none⟩)->f'.rd 6=.pointer (some ⟨h.length+2,0,none⟩)->f'.rd 7=.bool (d.ys.filterMap (elaK E H0 d.k real mono)).head?.isSome->P (.exit 0) f' X):Post (evK E h.length (.loop lp33_0) f X0) P:=by
 have hE:=C.hE;have lt0:=D0.lt
 refine loop_post hE.mono (fun q g X=>∃(i:Nat),i<=d.ys.length/\({ d with ys:=updN (fireX E H0 d.k real mono) i d.ys }:DK).In db X/\(∀j,j<h.length->(∀r,d.r=some r->j≠r.b/\j≠r.p)->X[j]?=h[j]?)/\h.length+3<=X.length/\X[h.length]?=some (.cells true [.int .i64 real,.int .i64 mono])/\X[h.length+1]?=some (.cells true [.int .u8 0,.int .i64 0])/\X[h.length+2]?=some (.cells true (oc ((d.ys.take i).filterMap (elaK E H0 d.k real mono)).head?)) /\
  g.rd 0=.pointer (some ⟨db,0,none⟩)/\g.rd 3=.pointer (some ⟨h.length,0,none⟩)/\g.rd 4=.pointer (some ⟨h.length+1,0,none⟩)/\g.rd 6=.pointer (some ⟨h.length+2,0,none⟩)/\g.rd 7=.bool ((d.ys.take i).filterMap (elaK E H0 d.k real mono)).head?.isSome/\g.rd 8=.int .i64 i/\d.ys.length-i=q) ?_ d.ys.length _ _
  ⟨0,Nat.zero_le _,?_,fun j j1 _=>by rw[hX0]; exact get_lt j1,by rw[hX0]; simp,by rw[hX0]; exact get_app0,by rw[hX0,get_app]; rfl,by rw[hX0,get_app]; rfl,f0,f3,f4,f6,f7,f8,rfl⟩
 case refine_2 =>
  rw[updN_0,hX0];exact D0.of fun j hj=>get_lt hj
 clear f0 f3 f4 f6 f7 f8 hX0;rintro q g X ⟨i,hi,DX,xo,xl,x0,x1,x2,g0,g3,g4,g6,g7,g8,hq⟩;have hn:=D0.n;have ul:=updN_len (fireX E H0 d.k real mono) i d.ys;obtain⟨ra,re,hra⟩:=DX.rvl;have hra:rv (d.r.map DR.l) d.ys.length 3=.slice ra d.ys.length re:=by have:=hra; simp only[ul] at this; exact this
 have xb:=DX.blk;simp only[DK.cs,CD.cs,List.cons_append,List.nil_append,ul,hra] at xb
 by_cases hlt:(i:Int)<d.ys.length
 ·have hi':i<d.ys.length:=by omega
  obtain⟨x,hxi⟩:∃x,d.ys[i]?=some x:=⟨_,List.getElem?_eq_getElem hi'⟩;obtain⟨xok,xask⟩:=hx x (List.mem_of_getElem? hxi);have uget:=updN_get (u:=fireX E H0 d.k real mono) hxi;have uset:=updN_set (u:=fireX E H0 d.k real mono) hxi;have usame:=updN_same (u:=fireX E H0 d.k real mono) hxi;have a2:(0<=(i:Int))=True:=by simp
  have a5:(i<d.ys.length)=True:=eq_true hi';have a8:=wn1 (i:=i);have cX:Ctx H0 F X:=c0.of fun j hj=>xo j (c0.L j hj) (fun r hr=>⟨fun e=>(nF r hr).1 (e▸hj),fun e=>(nF r hr).2 (e▸hj)⟩);have e68:=c68 C (lim:=h.length) (h:=X) DX hk uget xok xask cX;have t_len:=fm_take (p:=elaK E H0 d.k real mono) hxi
  have nofire:elap E H0 d.k real mono x=none->fireX E H0 d.k real mono x=x->updN (fireX E H0 d.k real mono) (i+1) d.ys=updN (fireX E H0 d.k real mono) i d.ys/\((d.ys.take (i+1)).filterMap (elaK E H0 d.k real mono))=(d.ys.take i).filterMap (elaK E H0 d.k real mono):=by
   intro h1 h2;refine⟨usame h2,?_⟩;rw[t_len,show elaK E H0 d.k real mono x=none by unfold elaK; rw[h1]; rfl];exact List.append_nil _
  have y20:∀l,(X++l)[h.length]?=some (.cells true [.int .i64 real,.int .i64 mono]):=fun l=>get_old x0;cases hd:dueK E H0 d.k x with
  | none =>
   rw[hd] at e68;simp only[winR] at e68;obtain⟨E1,E2⟩:=nofire (by unfold elap; rw[hd]) (by unfold fireX; rw[hd]);simp only[push_cast,lp33_0,g0,g3,g4,g6,g7,g8,hlt,a8,xb,e68,y20,simprocAttr];exact⟨_,(by omega:d.ys.length-(i+1)<q),i+1,by omega,by rw[E1]; exact DX.of fun j hj=>get_lt hj,fun j j1 j2=>by rw[get_lt (by omega)]; exact xo j j1 j2,by first | omega | (simp; omega),get_old x1,by rw[E2]; exact get_old x2,by rw[E2],rfl,rfl⟩
  | some p =>
   obtain⟨r,n⟩:=p;rw[hd] at e68;cases ha:aroundF n d.k.late d.k.acc with
   | false =>
    obtain⟨E1,E2⟩:=nofire (by unfold elap; rw[hd]; simp[ha]) (by unfold fireX; rw[hd]; simp[ha]);simp only[winR,ha,Bool.false_eq_true,if_false] at e68;simp only[push_cast,lp33_0,g0,g3,g4,g6,g7,g8,hlt,a8,xb,e68,y20,simprocAttr];exact⟨_,(by omega:d.ys.length-(i+1)<q),i+1,by omega,by rw[E1]; exact DX.of fun j hj=>get_lt hj,fun j j1 j2=>by rw[get_lt (by omega)]; exact xo j j1 j2,by first | omega | (simp; omega),get_old x1,by rw[E2]; exact get_old x2,by rw[E2],rfl,rfl⟩
   | true =>
    simp only[winR,ha,if_true] at e68
    by_cases hgt:n+d.k.late>(if r=true then real else mono)
    ·obtain⟨E1,E2⟩:=nofire (by unfold elap; rw[hd]; simp[ha]; omega) (by unfold fireX; rw[hd]; simp[ha]; intro hh; omega);cases r with
     | true =>
      simp only[if_true] at hgt;simp only[push_cast,lp33_0,g0,g3,g4,g6,g7,g8,hlt,a8,xb,e68,y20,hgt,simprocAttr];exact⟨_,(by omega:d.ys.length-(i+1)<q),i+1,by omega,by rw[E1]; exact DX.of fun j hj=>get_lt hj,fun j j1 j2=>by rw[get_lt (by omega)]; exact xo j j1 j2,by first | omega | (simp; omega),get_old x1,by rw[E2]; exact get_old x2,by rw[E2],rfl,rfl⟩
     | false =>
      simp only[Bool.false_eq_true,if_false] at hgt;simp only[push_cast,lp33_0,g0,g3,g4,g6,g7,g8,hlt,a8,xb,e68,y20,hgt,simprocAttr];exact⟨_,(by omega:d.ys.length-(i+1)<q),i+1,by omega,by rw[E1]; exact DX.of fun j hj=>get_lt hj,fun j j1 j2=>by rw[get_lt (by omega)]; exact xo j j1 j2,by first | omega | (simp; omega),get_old x1,by rw[E2]; exact get_old x2,by rw[E2],rfl,rfl⟩
    ·have hle:n+d.k.late<=(if r=true then real else mono):=by omega
     have E4:elaK E H0 d.k real mono x=some (x.kind,n):=by unfold elaK elap; rw[hd]; simp[ha,hle]
     have E3:fireX E H0 d.k real mono x=if r=true then { x with base:=IntKind.i64.wrap (real-d.k.late) } else { x with spent:=n }:=by unfold fireX; rw[hd]; simp[ha,hle]
     obtain⟨R,hR,n1,n2,n3,n4,b1,b2,b3,b4⟩:=DX.get uget;have hR:d.r=some R:=hR;have l0:=lt0.2 R hR;simp only at b1 b2 b3 b4;rw[E4] at t_len;obtain⟨o,ho⟩:∃o,((d.ys.take i).filterMap (elaK E H0 d.k real mono)).head?=o:=⟨_,rfl⟩;have E2:((d.ys.take (i+1)).filterMap (elaK E H0 d.k real mono)).head?=some (o.getD (x.kind,n)):=by rw[t_len,List.head?_append,ho]; cases o<;>rfl
     rw[ho] at x2 g7;obtain⟨X1,hX1⟩:∃X1,X1=X.set (h.length+2) (.cells true (oc (some (o.getD (x.kind,n))))):=⟨_,rfl⟩
     have D1:({ d with ys:=updN (fireX E H0 d.k real mono) i d.ys }:DK).In db X1:=by
      rw[hX1];refine DX.on (set_ne (by omega)) fun R' hR'=>?_;have:R'=R:=by have hR':d.r=some R':=hR'; rw[hR] at hR'; injection hR' with e; exact e.symm
      subst this;exact⟨set_ne (by omega),set_ne (by omega),set_ne (by omega),set_ne (by omega)⟩
     have x2':X1[h.length+2]?=some (.cells true (oc (some (o.getD (x.kind,n))))):=by rw[hX1]; exact set_get (lt_of_get x2)
     have x0':X1[h.length]?=some (.cells true [.int .i64 real,.int .i64 mono]):=by rw[hX1,set_ne (by omega)]; exact x0
     have x1':X1[h.length+1]?=some (.cells true [.int .u8 0,.int .i64 0]):=by rw[hX1,set_ne (by omega)]; exact x1
     have l1:X1.length=X.length:=by rw[hX1,List.length_set]
     have u1:(((updN (fireX E H0 d.k real mono) i d.ys).flatMap rawc).drop (i*3)).take 3=rawc x:=chunk_get rawc_len _ _ _ uget;rw[TK.raw_cs] at u1;have u1:=take3_get u1;have xo1:∀j,j<h.length->(∀r,d.r=some r->j≠r.b/\j≠r.p)->X1[j]?=h[j]?:=fun j j1 j2=>by rw[hX1,set_ne (by omega)]; exact xo j j1 j2
     simp only[Option.map_some,hR,rv] at hra
     injection hra with hr1 hr2 hr3
     subst hr1 hr3;simp only[hR,Option.map_some,rv] at xb;have w1:(i+1<=((updN (fireX E H0 d.k real mono) i d.ys).flatMap basec).length)=True:=eq_true (by rw[chunk_len basec_len,ul]; omega);have w2:(i+1<=((updN (fireX E H0 d.k real mono) i d.ys).flatMap spentc).length)=True:=eq_true (by rw[chunk_len spentc_len,ul]; omega);have lX:=lt_of_get x2;have y0:∀l,(X++l)[db]?=_:=fun l=>get_old xb;have y1:∀l,(X1++l)[db]?=_:=fun l=>get_old D1.blk;simp only[DK.cs,CD.cs,List.cons_append,List.nil_append,ul,hR,Option.map_some,rv] at y1;have y2:∀l,(X1++l)[h.length]?=some (.cells true [.int .i64 real,.int .i64 mono]):=fun l=>get_old x0';have y3:∀l,(X++l)[R.l]?=some (.cells true ((updN (fireX E H0 d.k real mono) i d.ys).flatMap rawc)):=fun l=>get_old b1;obtain⟨R',hR',-,-,-,-,c1,c2,c3,c4⟩:=D1.get uget
     have eR:R=R':=by
      have hR':d.r=some R':=hR';rw[hR] at hR'
      injection hR'
     subst eR;simp only at c1 c2 c3 c4;have y4:∀l,(X1++l)[R.b]?=some (.cells true ((updN (fireX E H0 d.k real mono) i d.ys).flatMap basec)):=fun l=>get_old c3;have y5:∀l,(X1++l)[R.p]?=some (.cells true ((updN (fireX E H0 d.k real mono) i d.ys).flatMap spentc)):=fun l=>get_old c4;have k1:∀l y,(X++l).set (h.length+2) y=X.set (h.length+2) y++l:=fun l y=>set_old lX;have k2:∀l y,(X1++l).set R.b y=X1.set R.b y++l:=fun l y=>set_old (by rw[l1]; exact lt_of_get b3);have k3:∀l y,(X1++l).set R.p y=X1.set R.p y++l:=fun l y=>set_old (by rw[l1]; exact lt_of_get b4);have k7:∀(l:Hp) (k:Nat),(X1++l)[X.length+k]?=l[k]?:=fun l k=>get_appC l1;have k8:∀(l:Hp),(X1++l)[X.length]?=l[0]?:=fun l=>get_appC0 l1;have y6:∀l,(X++l)[h.length+2]?=some (.cells true (oc o)):=fun l=>get_old x2
     have fin:∀(b:Nat) (ys:List TK) (blk:Blk) (l:Hp),(b=R.b\/b=R.p)->({ d with ys:=ys }:DK).In db (X1.set b blk)->ys=updN (fireX E H0 d.k real mono) (i+1) d.ys ->
       ({ d with ys:=updN (fireX E H0 d.k real mono) (i+1) d.ys }:DK).In db (X1.set b blk++l)/\(∀j,j<h.length->(∀r,d.r=some r->j≠r.b/\j≠r.p)->(X1.set b blk++l)[j]?=h[j]?)/\h.length+3<=(X1.set b blk++l).length/\(X1.set b blk++l)[h.length]?=some (.cells true [.int .i64 real,.int .i64 mono])/\(X1.set b blk++l)[h.length+1]?=some (.cells true [.int .u8 0,.int .i64 0])/\(X1.set b blk++l)[h.length+2]?=some (.cells true (oc (some (o.getD (x.kind,n))))):=by
      rintro b ys blk l hb D2 rfl;have hbl:b<h.length:=by rcases hb with rfl | rfl<;>omega
      refine⟨D2.of fun j hj=>get_lt hj,fun j j1 j2=>?_,by simp[l1]; omega,?_,?_,?_⟩
      ·have:=j2 R hR;rw[get_lt (by simp[l1]; omega),set_ne (by rcases hb with rfl | rfl<;>omega)];exact xo1 j j1 j2
      ·exact get_old (by rw[set_ne (by omega)]; exact x0')
      ·exact get_old (by rw[set_ne (by omega)]; exact x1')
      ·exact get_old (by rw[set_ne (by omega)]; exact x2')
     cases r with
     | true =>
      simp only[if_true] at E3 hgt;have E5:(updN (fireX E H0 d.k real mono) i d.ys).set i { x with base:=IntKind.i64.wrap (real-d.k.late) }=updN (fireX E H0 d.k real mono) (i+1) d.ys:=by rw[<- E3]; exact uset
      have D2:=D1.base (r:=R) hR uget (IntKind.i64.wrap (real-d.k.late));simp only at D2;have fin:=fun l=>fin R.b _ _ l (.inl rfl) D2 E5;cases o with
      | none =>
       have kX:X.set (h.length+2) (.cells true [.int .u8 x.kind,.int .i64 n])=X1:=hX1.symm;simp only[oc] at y6;simp only[push_cast,lp33_0,g0,g3,g4,g6,g7,g8,hlt,a2,a8,xb,e68,y20,hgt,Option.isSome_none,y0,y1,y2,y3,y4,y5,y6,k1,k2,k3,k7,k8,kX,u1,w1,Nat.mul_one,Nat.add_zero,simprocAttr];obtain⟨q1,q2,q3,q4,q5,q6⟩:=fin [.cells true [.bool true,.int .i64 (n+d.k.late),.int .i64 (n+d.k.late+d.k.acc)],.cells true [.bool true,.int .i64 n]];exact⟨_,(by omega:d.ys.length-(i+1)<q),i+1,by omega,q1,q2,by have:=l1; first | omega | (simp; omega),q4,q5,by rw[E2]; exact q6,by rw[E2]; rfl,rfl,rfl⟩
      | some o =>
       have kX:X1=X:=by rw[hX1]; exact set_same x2
       rw[kX] at y1 y2 y4 y5 k2 k3 k7 k8 fin;simp only[push_cast,lp33_0,g0,g3,g4,g6,g7,g8,hlt,a2,a8,xb,e68,y20,hgt,Option.isSome_some,y0,y1,y2,y4,y5,k2,k3,u1,w1,Nat.mul_one,Nat.add_zero,simprocAttr];obtain⟨q1,q2,q3,q4,q5,q6⟩:=fin [.cells true [.bool true,.int .i64 (n+d.k.late),.int .i64 (n+d.k.late+d.k.acc)],.cells true [.bool true,.int .i64 n]];exact⟨_,(by omega:d.ys.length-(i+1)<q),i+1,by omega,q1,q2,by have:=l1; first | omega | (simp; omega),q4,q5,by rw[E2]; exact q6,by rw[E2]; rfl,rfl,rfl⟩
     | false =>
      simp only[Bool.false_eq_true,if_false] at E3 hgt;have E5:(updN (fireX E H0 d.k real mono) i d.ys).set i { x with spent:=n }=updN (fireX E H0 d.k real mono) (i+1) d.ys:=by rw[<- E3]; exact uset
      have D2:=D1.spent (r:=R) hR uget n;simp only at D2;have fin:=fun l=>fin R.p _ _ l (.inr rfl) D2 E5;cases o with
      | none =>
       have kX:X.set (h.length+2) (.cells true [.int .u8 x.kind,.int .i64 n])=X1:=hX1.symm;simp only[oc] at y6;simp only[push_cast,lp33_0,g0,g3,g4,g6,g7,g8,hlt,a2,a8,xb,e68,y20,hgt,Option.isSome_none,y0,y1,y2,y3,y4,y5,y6,k1,k2,k3,k7,k8,kX,u1,w2,Nat.mul_one,Nat.add_zero,simprocAttr];obtain⟨q1,q2,q3,q4,q5,q6⟩:=fin [.cells true [.bool false,.int .i64 (n+d.k.late),.int .i64 (n+d.k.late+d.k.acc)],.cells true [.bool false,.int .i64 n]];exact⟨_,(by omega:d.ys.length-(i+1)<q),i+1,by omega,q1,q2,by have:=l1; first | omega | (simp; omega),q4,q5,by rw[E2]; exact q6,by rw[E2]; rfl,rfl,rfl⟩
      | some o =>
       have kX:X1=X:=by rw[hX1]; exact set_same x2
       rw[kX] at y1 y2 y4 y5 k2 k3 k7 k8 fin;simp only[push_cast,lp33_0,g0,g3,g4,g6,g7,g8,hlt,a2,a8,xb,e68,y20,hgt,Option.isSome_some,y0,y1,y2,y4,y5,k2,k3,u1,w2,Nat.mul_one,Nat.add_zero,simprocAttr];obtain⟨q1,q2,q3,q4,q5,q6⟩:=fin [.cells true [.bool false,.int .i64 (n+d.k.late),.int .i64 (n+d.k.late+d.k.acc)],.cells true [.bool false,.int .i64 n]];exact⟨_,(by omega:d.ys.length-(i+1)<q),i+1,by omega,q1,q2,by have:=l1; first | omega | (simp; omega),q4,q5,by rw[E2]; exact q6,by rw[E2]; rfl,rfl,rfl⟩
 ·simp only[push_cast,lp33_0,g0,g8,xb,hlt,simprocAttr];have:i=d.ys.length:=by omega
  subst this;rw[List.take_length] at x2 g7;rw[updN_all] at DX;refine hP _ X DX xo xl x1 x2 ?_ ?_ ?_ ?_<;>first | assumption | simp only[push_cast,g0,g4,g6,g7,simprocAttr]
theorem c33_off {d:DK}{db:Nat}(D:d.In db h)(ha:d.act=false)(real mono:Int):evI E lim (.func 33) [.pointer (some ⟨db,0,none⟩),.agg #[.int .i64 real,.int .i64 mono]] h=some (fireR none,h):=by
 have hE:=C.hE;have hb:∀l,(h++l)[db]?=_:=fun l=>get_old D.blk;simp only[DK.cs,CD.cs,List.cons_append,List.nil_append,ha] at hb;rw[hE.fn T33]; simp only[push_cast,ac33,hb,fireR,simprocAttr]
theorem c33 {d:DK}{db:Nat}(D:d.In db h)(hk:d.k.Ok)(hx:∀x∈d.ys,x.Ok/\AskF E H0 F d.k.z x)(c:Ctx H0 F h)(nF:∀r,d.r=some r->¬ F r.b/\¬ F r.p)(ha:d.act=true)(real mono:Int) :
  PostV (evI E lim (.func 33) [.pointer (some ⟨db,0,none⟩),.agg #[.int .i64 real,.int .i64 mono]] h) fun v h'=>v=fireR (d.out E H0 real mono).head?/\h'.length=h.length/\(d.fire E H0 real mono).In db h'/\d.Fr db h h':=by
 have hE:=C.hE;have hb0:∀l,(h++l)[db]?=_:=fun l=>get_old D.blk;simp only[DK.cs,CD.cs,List.cons_append,List.nil_append,ha] at hb0;have ltD:=D.lt;refine post_fn hE T33 (Nat.le_of_ble_eq_true rfl) ?_;show Post (evK E h.length ac33 _ _) _;unfold ac33;refine post_mid hE.mono (fun g W=>h++[.cells true [.int .i64 real,.int .i64 mono],.cells true [.int .u8 0,.int .i64 0]]=W/\g.rd 0=.pointer (some ⟨db,0,none⟩)/\g.rd 3=.pointer (some ⟨h.length,0,none⟩)/\g.rd 4=.pointer (some ⟨h.length+1,0,none⟩)) (by simp only[push_cast,simprocAttr]) ?_;rintro g W ⟨rfl,g0,g3,g4⟩;refine post_mid hE.mono (fun g W=>h++[.cells true [.int .i64 real,.int .i64 mono],.cells true [.int .u8 0,.int .i64 0]]=W/\g.rd 0=.pointer (some ⟨db,0,none⟩)/\g.rd 3=.pointer (some ⟨h.length,0,none⟩)/\g.rd 4=.pointer (some ⟨h.length+1,0,none⟩)) (by simp only[push_cast,g0,g3,g4,hb0,simprocAttr]) ?_;clear g0 g3 g4 g;rintro g W ⟨rfl,g0,g3,g4⟩;refine post_mid hE.mono (fun g W=>h++[.cells true [.int .i64 real,.int .i64 mono],.cells true [.int .u8 0,.int .i64 0],.cells true [.int .u8 0,.int .i64 0]]=W/\g.rd 0=.pointer (some ⟨db,0,none⟩)/\g.rd 3=.pointer (some ⟨h.length,0,none⟩)/\g.rd 4=.pointer (some ⟨h.length+1,0,none⟩)/\g.rd 6=.pointer (some ⟨h.length+2,0,none⟩)/\g.rd 7=.bool false) (by simp only[push_cast,g0,g3,g4,simprocAttr]) ?_;clear g0 g3 g4 g;rintro g W ⟨rfl,g0,g3,g4,g6,g7⟩;unfold DK.out;obtain⟨L,hL⟩:∃L,d.ys.filterMap (elaK E H0 d.k real mono)=L:=⟨_,rfl⟩;obtain⟨d1,hd1⟩:∃d1:DK,d1={ d with ys:=d.ys.map (fireX E H0 d.k real mono) }:=⟨_,rfl⟩
 refine post_mid hE.mono (fun g X=>d1.In db X/\(∀j,j<h.length->(∀r,d.r=some r->j≠r.b/\j≠r.p)->X[j]?=h[j]?)/\h.length+3<=X.length/\X[h.length+1]?=some (.cells true [.int .u8 0,.int .i64 0])/\X[h.length+2]?=some (.cells true (oc L.head?)) /\
   g.rd 0=.pointer (some ⟨db,0,none⟩)/\g.rd 4=.pointer (some ⟨h.length+1,0,none⟩)/\g.rd 6=.pointer (some ⟨h.length+2,0,none⟩)/\g.rd 7=.bool L.head?.isSome) ?_ ?_
 ·simp only[push_cast,g0,g3,g4,g6,g7,simprocAttr];refine loop33 C D hk hx c nF (real:=real) (mono:=mono) rfl (by simp[g0]) (by simp[g3]) (by simp[g4]) (by simp[g6]) (by simp[g7]) (by simp) ?_;rw[hL,<- hd1];intro f X q1 q2 q3 q4 q5 q6 q7 q8 q9;simp only[push_cast,simprocAttr];exact⟨q1,q2,q3,q4,q5,q6,q7,q8,q9⟩
 rw[hL];clear g0 g3 g4 g6 g7 g;rintro g X ⟨D1,xo,xl,x1,x2,g0,g4,g6,g7⟩
 have ltD':∀r,d1.r=some r->r.l≠h.length+2/\r.s≠h.length+2/\r.b≠h.length+2/\r.p≠h.length+2:=fun r hr=>by
  have hr:d.r=some r:=by rw[hd1] at hr; exact hr
  have:=ltD.2 r hr;have T:=D.row;rw[hr] at T;obtain⟨t1,t2,t3,t4,-⟩:=T;exact⟨by omega,by omega,by omega,by omega⟩
 have Din:∀X y,d1.In db X->d1.In db (X.set (h.length+2) y):=fun X y D1=>D1.on (set_ne (by omega)) fun r hr=>by
  have:=ltD' r hr;exact⟨set_ne (by omega),set_ne (by omega),set_ne (by omega),set_ne (by omega)⟩
 have e1:d1.c=d.c/\d1.clk=d.clk/\d1.zon=d.zon/\d1.k=d.k/\d1.r=d.r/\d1.act=d.act:=by rw[hd1]; exact⟨rfl,rfl,rfl,rfl,rfl,rfl⟩
 obtain⟨e1,e2,e3,e4,e5,e6⟩:=e1;have hd2:({ d1 with clk:=-1,zon:=-1 }:DK)=d.fire E H0 real mono:=by rw[hd1]; rfl
 clear hd1
 refine post_mid hE.mono (fun g X=>d1.In db X/\(∀j,j<h.length->(∀r,d.r=some r->j≠r.b/\j≠r.p)->X[j]?=h[j]?)/\h.length+3<=X.length/\X[h.length+1]?=some (.cells true [.int .u8 0,.int .i64 0])/\X[h.length+2]?=some (.cells true (oc (L++opt1 d.clk (7,d.clk)).head?)) /\
   g.rd 0=.pointer (some ⟨db,0,none⟩)/\g.rd 4=.pointer (some ⟨h.length+1,0,none⟩)/\g.rd 6=.pointer (some ⟨h.length+2,0,none⟩)/\g.rd 7=.bool (L++opt1 d.clk (7,d.clk)).head?.isSome) ?_ ?_
 ·have xb:=D1.blk;have l2:=lt_of_get x2;simp only[DK.cs,CD.cs,List.cons_append,List.nil_append,e2] at xb;cases hl:L with
  | cons p l =>
   rw[hl] at g7 x2;simp only[List.head?_cons,Option.isSome_some,List.cons_append] at g7 x2 ⊢;simp only[push_cast,g0,g4,g6,g7,simprocAttr];exact⟨D1,xo,xl,x1,x2⟩
  | nil =>
   rw[hl] at g7 x2;simp only[List.head?_nil,Option.isSome_none,List.nil_append,oc] at g7 x2 ⊢
   by_cases hv:d.clk>=0
   ·rw[show opt1 d.clk ((7:Int),d.clk)=[(7,d.clk)] from if_pos hv];simp only[push_cast,g0,g4,g6,g7,xb,x2,hv,simprocAttr];exact⟨Din _ _ D1,fun j j1 j2=>by rw[set_ne (by omega)]; exact xo j j1 j2,by first | omega | (simp; omega),by rw[set_ne (by omega)]; exact x1,by rw[set_get l2]; rfl,rfl⟩
   ·rw[show opt1 d.clk ((7:Int),d.clk)=[] from if_neg hv];simp only[push_cast,g0,g4,g6,g7,xb,hv,simprocAttr];exact⟨D1,xo,xl,x1,x2,rfl⟩
 clear g0 g4 g6 g7 g D1 xo xl x1 x2 X;rintro g X ⟨D1,xo,xl,x1,x2,g0,g4,g6,g7⟩;rw[<- List.append_assoc];generalize L++opt1 d.clk (7,d.clk)=L at *
 refine post_mid hE.mono (fun g X=>d1.In db X/\(∀j,j<h.length->(∀r,d.r=some r->j≠r.b/\j≠r.p)->X[j]?=h[j]?)/\h.length+3<=X.length/\X[h.length+1]?=some (.cells true [.int .u8 0,.int .i64 0])/\X[h.length+2]?=some (.cells true (oc (L++opt1 d.zon (8,d.zon)).head?)) /\
   g.rd 0=.pointer (some ⟨db,0,none⟩)/\g.rd 4=.pointer (some ⟨h.length+1,0,none⟩)/\g.rd 6=.pointer (some ⟨h.length+2,0,none⟩)/\g.rd 7=.bool (L++opt1 d.zon (8,d.zon)).head?.isSome) ?_ ?_
 ·have xb:=D1.blk;have l2:=lt_of_get x2;simp only[DK.cs,CD.cs,List.cons_append,List.nil_append,e3] at xb;cases hl:L with
  | cons p l =>
   rw[hl] at g7 x2;simp only[List.head?_cons,Option.isSome_some,List.cons_append] at g7 x2 ⊢;simp only[push_cast,g0,g4,g6,g7,simprocAttr];exact⟨D1,xo,xl,x1,x2⟩
  | nil =>
   rw[hl] at g7 x2;simp only[List.head?_nil,Option.isSome_none,List.nil_append,oc] at g7 x2 ⊢
   by_cases hv:d.zon>=0
   ·rw[show opt1 d.zon ((8:Int),d.zon)=[(8,d.zon)] from if_pos hv];simp only[push_cast,g0,g4,g6,g7,xb,x2,hv,simprocAttr];exact⟨Din _ _ D1,fun j j1 j2=>by rw[set_ne (by omega)]; exact xo j j1 j2,by first | omega | (simp; omega),by rw[set_ne (by omega)]; exact x1,by rw[set_get l2]; rfl,rfl⟩
   ·rw[show opt1 d.zon ((8:Int),d.zon)=[] from if_neg hv];simp only[push_cast,g0,g4,g6,g7,xb,hv,simprocAttr];exact⟨D1,xo,xl,x1,x2,rfl⟩
 clear g0 g4 g6 g7 g D1 xo xl x1 x2 X;rintro g X ⟨D1,xo,xl,x1,x2,g0,g4,g6,g7⟩;generalize L++opt1 d.zon (8,d.zon)=L at *;have lb:=D1.lt.1;have l1:=lt_of_get x1;have D2:=D1.put (d2:=d.fire E H0 real mono) (by rw[<- hd2]) (by rw[<- hd2]) (by rw[<- hd2]; exact D1.acc);have xb:=D1.blk;obtain⟨Y,hY⟩:∃Y,Y=(d.fire E H0 real mono).cs:=⟨_,rfl⟩;rw[<- hY] at D2;rw[<- hd2] at hY;simp only[DK.cs,CD.cs,List.cons_append,List.nil_append] at xb hY;have s1:∀y,(X.set db y)[h.length+2]?=some (.cells true (oc L.head?)):=fun y=>by rw[set_ne (by omega)]; exact x2
 have s2:∀y,(X.set db y)[h.length+1]?=some (.cells true [.int .u8 0,.int .i64 0]):=fun y=>by rw[set_ne (by omega)]; exact x1
 have s3:∀y z,((X.set db y).set (h.length+1) z)[h.length+1]?=some z:=fun y z=>set_get (by simpa using l1);simp only[oc] at s1;simp only[push_cast,g0,g4,g6,g7,xb,set_get lb,s1,s2,s3,simprocAttr];rw[<- hY];have key:∀z j,j<h.length->(((X.set db (.cells true Y)).set (h.length+1) z).take h.length)[j]?=(X.set db (.cells true Y))[j]?:=fun z j hj=>by rw[List.getElem?_take,if_pos hj,set_ne (by omega)]
 refine⟨by cases L.head?<;>rfl,by first | omega | (simp; omega),D2.on (key _ _ ltD.1) fun r hr=>?_,fun j j1 j2 j3=>?_⟩
 ·have hr:d.r=some r:=by rw[<- hd2] at hr; rw[<- e5]; exact hr
  have:=ltD.2 r hr;have T:=D.row;rw[hr] at T;obtain⟨t1,t2,t3,t4,-⟩:=T;exact⟨key _ _ (by omega),key _ _ (by omega),key _ _ (by omega),key _ _ (by omega)⟩
 ·rw[key _ _ j1,set_ne (Ne.symm j2)];exact xo j j1 j3
end
section
open Tb
def DK.start (d:DK)(real mono smono stamp:Int)(Z:Option ZN):DK:={ d with act:=true,k:={ d.k with st:=smono,ac:=mono,z:=Z },clk:=-1,zon:=-1,ys:=d.ys.map (startX real stamp) }
def DK.clkS (d:DK)(real:Int)(j:Bool):DK:=if j=true then { d with ys:=d.ys.map (jumpX real),clk:=if d.c.oc=true then real else d.clk } else d
def DK.zonS (d:DK)(real:Int)(Z:Option ZN)(zd:Bool):DK:=if zd=true then { d with k:={ d.k with z:=Z },zon:=if d.c.oz=true then real else d.zon } else d
variable {E:Env}(C:Conds E){lim:Nat}{h H0:Hp}{F:Nat->Prop}
include C
theorem loop30 {d:DK}{db:Nat}{X0:Hp}(D0:d.In db X0){real mono stamp:Int}{n0:Nat}(w0:X0[n0]?=some (.cells true [.int .i64 real,.int .i64 mono]))(hn0:∀r,d.r=some r->n0≠r.b/\n0≠r.p)
  {f:Fr}(f0:f.rd 0=.pointer (some ⟨db,0,none⟩))(f3:f.rd 3=.int .i64 stamp)(f6:f.rd 6=.pointer (some ⟨n0,0,none⟩))(f11:f.rd 11=.int .i64 0){P:AX->Fr->Hp->Prop}
  (hP:∀f' X,({ d with ys:=d.ys.map (startX real stamp) }:DK).In db X->(∀j,(∀r,d.r=some r->j≠r.b/\j≠r.p)->X[j]?=X0[j]?)->X.length=X0.length->P (.exit 0) f' X):Post (evK E lim (.loop lp30_0) f X0) P:=by
 have hE:=C.hE
 refine loop_post hE.mono (fun q g X=>∃(i:Nat),i<=d.ys.length/\({ d with ys:=updN (startX real stamp) i d.ys }:DK).In db X/\(∀j,(∀r,d.r=some r->j≠r.b/\j≠r.p)->X[j]?=X0[j]?)/\X.length=X0.length /\
  g.rd 0=.pointer (some ⟨db,0,none⟩)/\g.rd 3=.int .i64 stamp/\g.rd 6=.pointer (some ⟨n0,0,none⟩)/\g.rd 11=.int .i64 i/\d.ys.length-i=q) ?_ d.ys.length _ _ ⟨0,Nat.zero_le _,D0,fun _ _=>rfl,rfl,f0,f3,f6,f11,rfl⟩
 clear f0 f3 f6 f11;rintro q g X ⟨i,hi,DX,xo,xl,g0,g3,g6,g11,hq⟩;have hn:=D0.n;have ul:=updN_len (startX real stamp) i d.ys;have xw:=(xo n0 hn0).trans w0
 by_cases hlt:(i:Int)<d.ys.length
 ·have hi':i<d.ys.length:=by omega
  obtain⟨x,hxi⟩:∃x,d.ys[i]?=some x:=⟨_,List.getElem?_eq_getElem hi'⟩;have uget:=updN_get (u:=startX real stamp) hxi;have uset:=updN_set (u:=startX real stamp) hxi;have a2:(0<=(i:Int))=True:=by simp
  have a8:=wn1 (i:=i);obtain⟨R,hR,n1,n2,n3,n4,b1,b2,b3,b4⟩:=DX.get uget;have hR:d.r=some R:=hR;simp only at b1 b2 b3 b4;have D1:=DX.base (r:=R) hR uget (if stamp<0 then real else min real stamp);simp only at D1;have uget1:((updN (startX real stamp) i d.ys).set i { x with base:=if stamp<0 then real else min real stamp })[i]?=some { x with base:=if stamp<0 then real else min real stamp }:=List.getElem?_set_self (by omega);have D2:=D1.spent (r:=R) hR uget1 (-1);simp only[List.set_set] at D2;have uset:(updN (startX real stamp) i d.ys).set i { x with base:=if stamp<0 then real else min real stamp,spent:=-1 }=updN (startX real stamp) (i+1) d.ys:=uset;rw[uset] at D2;have hs:((updN (startX real stamp) i d.ys).set i { x with base:=if stamp<0 then real else min real stamp }).flatMap spentc=(updN (startX real stamp) i d.ys).flatMap spentc:=flat_same (f:=spentc) spentc_len (by omega) uget rfl;rw[hs] at D2;have w1:(i+1<=((updN (startX real stamp) i d.ys).flatMap basec).length)=True:=eq_true (by rw[chunk_len basec_len,ul]; omega);have w2:(i+1<=((updN (startX real stamp) i d.ys).flatMap spentc).length)=True:=eq_true (by rw[chunk_len spentc_len,ul]; omega);have xb:=DX.blk;have xb1:∀y,(X.set R.b y)[db]?=_:=fun y=>(set_ne (by omega)).trans xb;have b4':∀y,(X.set R.b y)[R.p]?=_:=fun y=>(set_ne (by omega)).trans b4;simp only[DK.cs,CD.cs,List.cons_append,List.nil_append,ul,hR,Option.map_some,rv] at xb xb1;simp only[push_cast,lp30_0,g0,g3,g6,g11,hlt,a2,a8,xb,xb1,xw,b3,b4',c61 hE,w1,w2,Nat.mul_one,sureL,simprocAttr];exact⟨_,(by omega:d.ys.length-(i+1)<q),i+1,by omega,D2,fun j j2=>by rw[set_ne (Ne.symm (j2 R hR).2),set_ne (Ne.symm (j2 R hR).1)]; exact xo j j2,by simpa using xl,rfl,rfl⟩
 ·obtain⟨ra,re,hra⟩:=DX.rvl;have hra:rv (d.r.map DR.l) d.ys.length 3=.slice ra d.ys.length re:=by have:=hra; simp only[ul] at this; exact this
  have xb:=DX.blk;simp only[DK.cs,CD.cs,List.cons_append,List.nil_append,ul,hra] at xb;simp only[push_cast,lp30_0,g0,g11,xb,hlt,simprocAttr];have:i=d.ys.length:=by omega
  subst this;rw[updN_all] at DX;exact hP _ X DX xo xl
theorem c30_on {d:DK}{db:Nat}(D:d.In db h)(ha:d.act=true)(a b c e s:Int)(Z:Option ZN):evI E lim (.func 30) [.pointer (some ⟨db,0,none⟩),.agg #[.int .i64 a,.int .i64 b],.agg #[.int .i64 c,.int .i64 e],.int .i64 s,zv Z] h=some (.int .i64 4,h++[.cells true [.int .i64 a,.int .i64 b],.cells true [.int .i64 c,.int .i64 e]]):=by
 have hE:=C.hE;have hb:∀l,(h++l)[db]?=_:=fun l=>get_old D.blk;simp only[DK.cs,CD.cs,List.cons_append,List.nil_append,ha] at hb;rw[hE.fn T30]; simp only[push_cast,ac30,hb,simprocAttr]
theorem c30 {d:DK}{db:Nat}(D:d.In db h)(ha:d.act=false)(hlim:lim<=db)(real mono sreal smono stamp:Int)(Z:Option ZN) :
  PostV (evI E lim (.func 30) [.pointer (some ⟨db,0,none⟩),.agg #[.int .i64 real,.int .i64 mono],.agg #[.int .i64 sreal,.int .i64 smono],.int .i64 stamp,zv Z] h) fun v h'=>v=.int .i64 0/\(d.start real mono smono stamp Z).In db h'/\d.Fr db h h'/\h.length<=h'.length:=by
 have hE:=C.hE;have lD:=D.lt;have k1:∀l,(h++l)[db]?=some (.cells true d.cs):=fun l=>get_old D.blk;have k2:∀x l,(h++l).set db x=h.set db x++l:=fun x l=>set_old lD.1;have k3:∀x l,(h.set db x++l)[db]?=some x:=fun x l=>get_old (set_get lD.1);have k6:∀x y l,(h.set db x++l).set db y=h.set db y++l:=fun x y l=>by rw[set_old (by simpa using lD.1),List.set_set]
 have x6:∀q:Prop,(lim<=db\/q)=True:=fun q=>by simp[hlim]
 have k4:∀x (l:Hp),(h.set db x++l)[h.length]?=l[0]?:=fun x l=>get_appC0 (by simp);have k5:∀x (l:Hp) k,(h.set db x++l)[h.length+k]?=l[k]?:=fun x l k=>get_appC (by simp);obtain⟨p,hp⟩:=zv_ptr Z;obtain⟨d1,hd1⟩:∃d1:DK,d1={ d with act:=true,k:={ d.k with st:=smono,ac:=mono,z:=Z },clk:=-1,zon:=-1 }:=⟨_,rfl⟩;have D1:∀l,d1.In db (h.set db (.cells true d1.cs)++l):=fun l=>(D.put (d2:=d1) (by rw[hd1]) (by rw[hd1]) (by rw[hd1]; exact D.acc)).of fun j hj=>get_lt hj;have hd2:({ d1 with ys:=d1.ys.map (startX real stamp) }:DK)=d.start real mono smono stamp Z:=by rw[hd1]; rfl
 have er:d1.r=d.r:=by rw[hd1]
 obtain⟨Y,hY⟩:∃Y,Y=d1.cs:=⟨_,rfl⟩;have hY':=hY;rw[hd1] at hY';rw[hp];simp only[DK.cs,CD.cs,List.cons_append,List.nil_append,ha,hp] at k1 hY';rw[hE.fn T30]; simp only[push_cast,ac30,k1,k2,k3,k4,k5,k6,x6,sureL,simprocAttr];rw[<- hY',hY];refine loop30 C (D1 _) (real:=real) (mono:=mono) (stamp:=stamp) (n0:=h.length) ?_ ?_ (by simp) (by simp) (by simp) (by simp) ?_
 ·rw[get_appC0 (by simp)]; rfl
 ·intro r hr;rw[er] at hr;have:=lD.2 r hr;have T:=D.row;rw[hr] at T;omega
 ·rw[hd2];intro f X q1 q2 q3;simp only[push_cast,simprocAttr];refine⟨q1,fun j j1 j2 j3=>?_,?_⟩
  ·rw[q2 j (by rw[er]; exact j3),get_lt (by simpa using j1),set_ne (Ne.symm j2)]
  ·simp at q3; omega
theorem loop32 {d:DK}{db:Nat}{X0:Hp}(D0:d.In db X0){real mono:Int}{n0:Nat}(w0:X0[n0]?=some (.cells true [.int .i64 real,.int .i64 mono]))(hn0:∀r,d.r=some r->n0≠r.b/\n0≠r.p){v2 v4:Value}
  {f:Fr}(f0:f.rd 0=.pointer (some ⟨db,0,none⟩))(f2:f.rd 2=v2)(f3:f.rd 3=.bool true)(f4:f.rd 4=v4)(f6:f.rd 6=.pointer (some ⟨n0,0,none⟩))(f10:f.rd 10=.int .i64 0){P:AX->Fr->Hp->Prop}
  (hP:∀f' X,({ d with ys:=d.ys.map (jumpX real) }:DK).In db X->(∀j,(∀r,d.r=some r->j≠r.b/\j≠r.p)->X[j]?=X0[j]?)->X.length=X0.length->f'.rd 0=.pointer (some ⟨db,0,none⟩)->f'.rd 2=v2->f'.rd 3=.bool true->f'.rd 4=v4->f'.rd 6=.pointer (some ⟨n0,0,none⟩)->P (.exit 0) f' X):Post (evK E lim (.loop lp32_0) f X0) P:=by
 have hE:=C.hE
 refine loop_post hE.mono (fun q g X=>∃(i:Nat),i<=d.ys.length/\({ d with ys:=updN (jumpX real) i d.ys }:DK).In db X/\(∀j,(∀r,d.r=some r->j≠r.b/\j≠r.p)->X[j]?=X0[j]?)/\X.length=X0.length /\
  g.rd 0=.pointer (some ⟨db,0,none⟩)/\g.rd 2=v2/\g.rd 3=.bool true/\g.rd 4=v4/\g.rd 6=.pointer (some ⟨n0,0,none⟩)/\g.rd 10=.int .i64 i/\d.ys.length-i=q) ?_ d.ys.length _ _ ⟨0,Nat.zero_le _,D0,fun _ _=>rfl,rfl,f0,f2,f3,f4,f6,f10,rfl⟩
 clear f0 f2 f3 f4 f6 f10;rintro q g X ⟨i,hi,DX,xo,xl,g0,g2,g3,g4,g6,g10,hq⟩;have hn:=D0.n;have ul:=updN_len (jumpX real) i d.ys;have xw:=(xo n0 hn0).trans w0
 by_cases hlt:(i:Int)<d.ys.length
 ·have hi':i<d.ys.length:=by omega
  obtain⟨x,hxi⟩:∃x,d.ys[i]?=some x:=⟨_,List.getElem?_eq_getElem hi'⟩;have uget:=updN_get (u:=jumpX real) hxi;have uset:=updN_set (u:=jumpX real) hxi;have a2:(0<=(i:Int))=True:=by simp
  have a8:=wn1 (i:=i);obtain⟨R,hR,n1,n2,n3,n4,b1,b2,b3,b4⟩:=DX.get uget;have hR:d.r=some R:=hR;simp only at b1 b2 b3 b4;have D1:=DX.base (r:=R) hR uget (min x.base real);simp only at D1;have uset:(updN (jumpX real) i d.ys).set i { x with base:=min x.base real }=updN (jumpX real) (i+1) d.ys:=uset;rw[uset] at D1;have w1:(i+1<=((updN (jumpX real) i d.ys).flatMap basec).length)=True:=eq_true (by rw[chunk_len basec_len,ul]; omega);have u3:((updN (jumpX real) i d.ys).flatMap basec)[i]?=some (.int .i64 x.base):=get1 (by have:=chunk_get basec_len _ _ _ uget; rwa [Nat.mul_one] at this);have xb:=DX.blk;simp only[DK.cs,CD.cs,List.cons_append,List.nil_append,ul,hR,Option.map_some,rv] at xb;simp only[push_cast,lp32_0,g0,g2,g3,g4,g6,g10,hlt,a2,a8,xb,xw,b3,u3,w1,Nat.mul_one,sureL,simprocAttr];exact⟨_,(by omega:d.ys.length-(i+1)<q),i+1,by omega,D1,fun j j2=>by rw[set_ne (Ne.symm (j2 R hR).1)]; exact xo j j2,by simpa using xl,rfl,rfl⟩
 ·obtain⟨ra,re,hra⟩:=DX.rvl;have hra:rv (d.r.map DR.l) d.ys.length 3=.slice ra d.ys.length re:=by have:=hra; simp only[ul] at this; exact this
  have xb:=DX.blk;simp only[DK.cs,CD.cs,List.cons_append,List.nil_append,ul,hra] at xb;simp only[push_cast,lp32_0,g0,g3,g10,xb,hlt,simprocAttr];have:i=d.ys.length:=by omega
  subst this;rw[updN_all] at DX;refine hP _ X DX xo xl ?_ ?_ ?_ ?_ ?_<;>first | assumption | simp only[push_cast,g0,g2,g3,g4,g6,simprocAttr]
theorem c32_off {d:DK}{db:Nat}(D:d.In db h)(ha:d.act=false)(real mono:Int)(Z:Option ZN)(j zd:Bool):evI E lim (.func 32) [.pointer (some ⟨db,0,none⟩),.agg #[.int .i64 real,.int .i64 mono],zv Z,.bool j,.bool zd] h=some (undef,h++[.cells true [.int .i64 real,.int .i64 mono]]):=by
 have hE:=C.hE;have hb:∀l,(h++l)[db]?=_:=fun l=>get_old D.blk;simp only[DK.cs,CD.cs,List.cons_append,List.nil_append,ha] at hb;rw[hE.fn T32]; simp only[push_cast,ac32,hb,simprocAttr];rfl
theorem c32 {d:DK}{db:Nat}(D:d.In db h)(ha:d.act=true)(hlim:lim<=db)(real mono:Int)(Z:Option ZN)(j zd:Bool) :
  PostV (evI E lim (.func 32) [.pointer (some ⟨db,0,none⟩),.agg #[.int .i64 real,.int .i64 mono],zv Z,.bool j,.bool zd] h) fun v h'=>v=undef/\((d.clkS real j).zonS real Z zd).In db h'/\d.Fr db h h'/\h.length<=h'.length:=by
 have hE:=C.hE;have lD:=D.lt;obtain⟨p,hp⟩:=zv_ptr Z;rw[hp];have hb:∀l,(h++l)[db]?=_:=fun l=>get_old D.blk;simp only[DK.cs,CD.cs,List.cons_append,List.nil_append,ha] at hb;have x6:∀q:Prop,(lim<=db\/q)=True:=fun q=>by simp[hlim]
 refine post_fn hE T32 (Nat.le_of_ble_eq_true rfl) ?_;show Post (evK E lim ac32 _ _) _;unfold ac32;refine post_mid hE.mono (fun g W=>h++[.cells true [.int .i64 real,.int .i64 mono]]=W/\g.rd 0=.pointer (some ⟨db,0,none⟩)/\g.rd 2=.pointer p/\g.rd 3=.bool j/\g.rd 4=.bool zd/\g.rd 6=.pointer (some ⟨h.length,0,none⟩)) (by simp only[push_cast,simprocAttr]) ?_;rintro g W ⟨rfl,g0,g2,g3,g4,g6⟩;refine post_mid hE.mono (fun g W=>h++[.cells true [.int .i64 real,.int .i64 mono]]=W/\g.rd 0=.pointer (some ⟨db,0,none⟩)/\g.rd 2=.pointer p/\g.rd 3=.bool j/\g.rd 4=.bool zd/\g.rd 6=.pointer (some ⟨h.length,0,none⟩)) (by simp only[push_cast,hb,g0,g2,g3,g4,g6,simprocAttr]) ?_;clear g0 g2 g3 g4 g6 g;rintro g W ⟨rfl,g0,g2,g3,g4,g6⟩
 have nr:∀r,d.r=some r->h.length≠r.b/\h.length≠r.p:=fun r hr=>by
  have:=lD.2 r hr;have T:=D.row;rw[hr] at T;omega
 refine post_mid hE.mono (fun g X=>({ d with ys:=if j=true then d.ys.map (jumpX real) else d.ys }:DK).In db X/\(∀i,i<h.length+1->(∀r,d.r=some r->i≠r.b/\i≠r.p)->X[i]?=(h++[Blk.cells true [.int .i64 real,.int .i64 mono]])[i]?)/\h.length+1<=X.length /\
   g.rd 0=.pointer (some ⟨db,0,none⟩)/\g.rd 2=.pointer p/\g.rd 3=.bool j/\g.rd 4=.bool zd/\g.rd 6=.pointer (some ⟨h.length,0,none⟩)) ?_ ?_
 ·have D1:d.In db (h++[Blk.cells true [.int .i64 real,.int .i64 mono]]):=D.of fun j hj=>get_lt hj;cases j with
  | false =>
   have T:=D.row;obtain⟨ra,re,hra⟩:=D.rvl;rw[hra] at hb;simp only[push_cast,g0,g2,g3,g4,g6,evK_loop' hE.mono,lp32_0,hb,simprocAttr];exact D1
  | true =>
   simp only[push_cast,g0,g2,g3,g4,g6,simprocAttr];refine loop32 C D1 (real:=real) (mono:=mono) get_app0 nr (v2:=.pointer p) (v4:=.bool zd) (by simp[g0]) (by simp[g2]) (by simp[g3]) (by simp[g4]) (by simp[g6]) (by simp) ?_;intro f X q1 q2 q3 q4 q5 q6 q7 q8;simp only[push_cast,q4,q5,q6,q7,q8,simprocAttr];exact⟨q1,fun i _ hi=>q2 i hi,by rw[q3]; simp⟩
 clear g0 g2 g3 g4 g6 g;rintro g X ⟨D1,xo,xl,g0,g2,g3,g4,g6⟩;have fr:∀i,i<h.length->(∀r,d.r=some r->i≠r.b/\i≠r.p)->X[i]?=h[i]?:=fun i i1 i2=>(xo i (by omega) i2).trans (get_lt i1);have xn:X[h.length]?=some (.cells true [.int .i64 real,.int .i64 mono]):=(xo _ (by omega) nr).trans get_app0;obtain⟨d1,hd1⟩:∃d1:DK,d1={ d with ys:=if j=true then d.ys.map (jumpX real) else d.ys }:=⟨_,rfl⟩;rw[<- hd1] at D1;have e1:d1.c=d.c/\d1.r=d.r:=by rw[hd1]; exact⟨rfl,rfl⟩
 obtain⟨e1,e2⟩:=e1
 refine post_mid hE.mono (fun g X=>(d.clkS real j).In db X/\(∀i,i<h.length->i≠db->(∀r,d.r=some r->i≠r.b/\i≠r.p)->X[i]?=h[i]?)/\X[h.length]?=some (.cells true [.int .i64 real,.int .i64 mono]) /\
   g.rd 0=.pointer (some ⟨db,0,none⟩)/\g.rd 2=.pointer p/\g.rd 4=.bool zd/\g.rd 6=.pointer (some ⟨h.length,0,none⟩)) ?_ ?_
 ·cases j with
  | false =>
   have hd:d.clkS real false=d1:=by rw[hd1]; rfl
   rw[hd];simp only[push_cast,g0,g2,g3,g4,g6,simprocAttr];exact⟨D1,fun i i1 _ i3=>fr i i1 i3,xn⟩
  | true =>
   have xb:=D1.blk;have lX:=lt_of_get xb;cases hoc:d.c.oc with
   | false =>
    have hd:d.clkS real true=d1:=by rw[hd1]; unfold DK.clkS; rw[hoc]; rfl
    rw[hd];simp only[DK.cs,CD.cs,List.cons_append,List.nil_append,e1,hoc] at xb;simp only[push_cast,g0,g2,g3,g4,g6,xb,simprocAttr];exact⟨D1,fun i i1 _ i3=>fr i i1 i3,xn⟩
   | true =>
    have hd:d.clkS real true={ d1 with clk:=real }:=by rw[hd1]; unfold DK.clkS; rw[hoc]; rfl
    rw[hd];have D2:=D1.put (d2:={ d1 with clk:=real }) rfl rfl D1.acc;obtain⟨Y,hY⟩:∃Y,Y=({ d1 with clk:=real }:DK).cs:=⟨_,rfl⟩;rw[<- hY] at D2;simp only[DK.cs,CD.cs,List.cons_append,List.nil_append,e1,hoc] at xb hY;simp only[push_cast,g0,g2,g3,g4,g6,xb,xn,simprocAttr];rw[<- hY];exact⟨D2,fun i i1 i2 i3=>(set_ne (Ne.symm i2)).trans (fr i i1 i3),(set_ne (by omega)).trans xn⟩
 clear g0 g2 g3 g4 g6 g D1 xo xl fr xn hd1 e1 e2 X;rintro g X ⟨D1,fr,xn,g0,g2,g4,g6⟩;have ec:(d.clkS real j).c=d.c:=by unfold DK.clkS; split<;>rfl
 generalize d.clkS real j=d1 at *;have ln:=lt_of_get xn;cases zd with
 | false =>
  simp only[push_cast,g0,g2,g4,g6,simprocAttr];exact⟨rfl,D1,fr,by omega⟩
 | true =>
  have xb:=D1.blk;have lX:=lt_of_get xb;cases hoz:d1.c.oz with
  | false =>
   have hd:d1.zonS real Z true={ d1 with k:={ d1.k with z:=Z } }:=by unfold DK.zonS; rw[hoz]; rfl
   rw[hd];have D2:=D1.put (d2:={ d1 with k:={ d1.k with z:=Z } }) rfl rfl D1.acc;obtain⟨Y,hY⟩:∃Y,Y=({ d1 with k:={ d1.k with z:=Z } }:DK).cs:=⟨_,rfl⟩;rw[<- hY] at D2;simp only[DK.cs,CD.cs,List.cons_append,List.nil_append,hoz,hp] at xb hY;simp only[push_cast,g0,g2,g4,g6,xb,x6,set_get lX,simprocAttr];rw[<- hY];exact⟨rfl,D2,fun i i1 i2 i3=>(set_ne (Ne.symm i2)).trans (fr i i1 i2 i3),by first | omega | (simp; omega)⟩
  | true =>
   have hd:d1.zonS real Z true={ d1 with k:={ d1.k with z:=Z },zon:=real }:=by unfold DK.zonS; rw[hoz]; rfl
   rw[hd];have D2:=D1.put (d2:={ d1 with k:={ d1.k with z:=Z },zon:=real }) rfl rfl D1.acc;obtain⟨Y,hY⟩:∃Y,Y=({ d1 with k:={ d1.k with z:=Z },zon:=real }:DK).cs:=⟨_,rfl⟩;rw[<- hY] at D2;simp only[DK.cs,CD.cs,List.cons_append,List.nil_append,hoz,hp] at xb hY;have xn2:∀y,(X.set db y)[h.length]?=some (.cells true [.int .i64 real,.int .i64 mono]):=fun y=>(set_ne (by omega)).trans xn;simp only[push_cast,g0,g2,g4,g6,xb,x6,set_get lX,xn2,simprocAttr];rw[<- hY];exact⟨rfl,D2,fun i i1 i2 i3=>(set_ne (Ne.symm i2)).trans (fr i i1 i2 i3),by first | omega | (simp; omega)⟩
end
end Go.Ab
