/- What Go code of this program comes to on a small machine that its translation simulates (a part of the proof of a law of its timers). No condition. -/
import Derived.KernelRfl
import Derived.Test.YthbopkpamlbjoaaGreatDoorP03
set_option linter.unusedSimpArgs false
set_option linter.unusedVariables false
set_option linter.unusedSectionVars false
set_option maxHeartbeats 4000000
namespace Go.Ab.Q
abbrev Mq:=Nat->Option Nat
inductive VR (m:Mq):Value->Value->Prop
 | bool (b:Bool):VR m (.bool b) (.bool b)
 | int (k:IntKind) (n:Int):VR m (.int k n) (.int k n)
 | str (s:ByteArray):VR m (.string s) (.string s)
 | pnil:VR m (.pointer none) (.pointer none)
 | ptr {b o b':Nat} (h:m b=some b'):VR m (.pointer (some ⟨b,o,none⟩)) (.pointer (some ⟨b',o,none⟩))
 | snil (n e:Nat):VR m (.slice none n e) (.slice none n e)
 | sl {b o len es b':Nat} (h:m b=some b'):VR m (.slice (some ⟨b,o,none⟩) len es) (.slice (some ⟨b',o,none⟩) len es)
 | mnil:VR m (.map none) (.map none)
 | map {b b':Nat} (h:m b=some b'):VR m (.map (some b)) (.map (some b'))
 | fnil:VR m .nilFunc .nilFunc
 | inil:VR m .nilIface .nilIface
 | fn (f:FuncId) {a b a' b':Array Value} (na:a.size=a'.size) (nb:b.size=b'.size) (ha:∀i,i<a.size->VR m (a.getD i undef) (a'.getD i undef))
   (hb:∀i,i<b.size->VR m (b.getD i undef) (b'.getD i undef)):VR m (.func (.func f) a b) (.func (.func f) a' b')
 | yl {l l':Nat} (h:m l=some l'):VR m (.func (.yield l) #[] #[]) (.func (.yield l') #[] #[])
 | iface (t:TypeId) {x y:Value} (h:VR m x y):VR m (.iface t x) (.iface t y)
 | agg {xs ys:Array Value} (n:xs.size=ys.size) (h:∀i,i<xs.size->VR m (xs.getD i undef) (ys.getD i undef)):VR m (.agg xs) (.agg ys)
 | tup {xs ys:Array Value} (n:xs.size=ys.size) (h:∀i,i<xs.size->VR m (xs.getD i undef) (ys.getD i undef)):VR m (.tuple xs) (.tuple ys)
def Sub (m m':Mq):Prop:=∀b p,m b=some p->m' b=some p
theorem Sub.refl (m:Mq):Sub m m:=fun _ _ h=>h
theorem Sub.trans {a b c:Mq}(h:Sub a b)(k:Sub b c):Sub a c:=fun _ _ e=>k _ _ (h _ _ e)
theorem VR.mono {m m':Mq}(hs:Sub m m'){v v':Value}(h:VR m v v'):VR m' v v':=by
 induction h with
 | bool b=>exact .bool b
 | int k n=>exact .int k n
 | str s=>exact .str s
 | pnil=>exact .pnil
 | ptr h=>exact .ptr (hs _ _ h)
 | snil n e=>exact .snil n e
 | sl h=>exact .sl (hs _ _ h)
 | mnil=>exact .mnil
 | map h=>exact .map (hs _ _ h)
 | fnil=>exact .fnil
 | inil=>exact .inil
 | fn f na nb _ _ iha ihb=>exact .fn f na nb iha ihb
 | yl h=>exact .yl (hs _ _ h)
 | iface t _ ih=>exact .iface t ih
 | agg n _ ih=>exact .agg n ih
 | tup n _ ih=>exact .tup n ih
theorem VR.undef {m:Mq}:VR m undef undef:=.tup rfl (fun _ hi=>absurd hi (Nat.not_lt_zero _))
def LR (m:Mq)(xs ys:List Value):Prop:=xs.length=ys.length/\∀i,i<xs.length->VR m (xs.getD i undef) (ys.getD i undef)
theorem getD_toList (a:Array Value)(i:Nat):a.toList.getD i undef=a.getD i undef:=by simp[List.getD_eq_getElem?_getD,Array.getD_eq_getD_getElem?]
theorem LR.arr {m:Mq}{xs ys:Array Value}:LR m xs.toList ys.toList<->xs.size=ys.size/\∀i,i<xs.size->VR m (xs.getD i undef) (ys.getD i undef):=by
 unfold LR;simp only[getD_toList,Array.length_toList]
theorem LR.agg {m:Mq}{xs ys:Array Value}(h:LR m xs.toList ys.toList):VR m (.agg xs) (.agg ys):=.agg (LR.arr.1 h).1 (LR.arr.1 h).2
theorem LR.tup {m:Mq}{xs ys:Array Value}(h:LR m xs.toList ys.toList):VR m (.tuple xs) (.tuple ys):=.tup (LR.arr.1 h).1 (LR.arr.1 h).2
theorem LR.aggL {m:Mq}{xs ys:List Value}(h:LR m xs ys):VR m (.agg xs.toArray) (.agg ys.toArray):=LR.agg (by simpa using h)
theorem LR.tupL {m:Mq}{xs ys:List Value}(h:LR m xs ys):VR m (.tuple xs.toArray) (.tuple ys.toArray):=LR.tup (by simpa using h)
theorem LR.nil {m:Mq}:LR m [] []:=⟨rfl,fun _ hi=>absurd hi (Nat.not_lt_zero _)⟩
theorem LR.cons {m:Mq}{x y:Value}{xs ys:List Value}(h:VR m x y)(hs:LR m xs ys):LR m (x::xs) (y::ys):=by
 refine⟨by simp[hs.1],fun i hi=>?_⟩;cases i with
 | zero=>exact h
 | succ i=>exact hs.2 i (by simpa using hi)
theorem LR.head {m:Mq}{x y:Value}{xs ys:List Value}(h:LR m (x::xs) (y::ys)):VR m x y:=h.2 0 (by simp)
theorem LR.tail {m:Mq}{x y:Value}{xs ys:List Value}(h:LR m (x::xs) (y::ys)):LR m xs ys :=
 ⟨by simpa using h.1,fun i hi=>h.2 (i+1) (by simpa using hi)⟩
theorem LR.cases_cons {m:Mq}{x:Value}{xs ys:List Value}(h:LR m (x::xs) ys):∃y ys',ys=y::ys'/\VR m x y/\LR m xs ys':=by
 cases ys with
 | nil=>have:=h.1; simp at this
 | cons y ys=>exact⟨y,ys,rfl,h.head,h.tail⟩
theorem LR.cases_nil {m:Mq}{ys:List Value}(h:LR m [] ys):ys=[]:=by
 cases ys with
 | nil=>rfl
 | cons y ys=>have:=h.1; simp at this
theorem LR.mono {m m':Mq}(hs:Sub m m'){xs ys:List Value}(h:LR m xs ys):LR m' xs ys:=⟨h.1,fun i hi=>(h.2 i hi).mono hs⟩
theorem LR.append {m:Mq}{xs ys xs' ys':List Value}(h:LR m xs ys)(k:LR m xs' ys'):LR m (xs++xs') (ys++ys'):=by
 refine⟨by simp[h.1,k.1],fun i hi=>?_⟩
 by_cases hl:i<xs.length
 ·have h2:i<ys.length:=h.1▸hl;have:=h.2 i hl;simpa[List.getD_eq_getElem?_getD,List.getElem?_append_left,hl,h2] using this
 ·have h2:¬ i<ys.length:=h.1▸hl;have:=k.2 (i-xs.length) (by simp at hi; omega);rw[show(xs++xs').getD i Go.undef=xs'.getD (i-xs.length) Go.undef by simp[List.getD_eq_getElem?_getD,List.getElem?_append_right (Nat.le_of_not_lt hl)]];rw[show(ys++ys').getD i Go.undef=ys'.getD (i-ys.length) Go.undef by simp[List.getD_eq_getElem?_getD,List.getElem?_append_right (Nat.le_of_not_lt h2)]];rw[<- h.1]; exact this
theorem LR.take {m:Mq}{xs ys:List Value}(h:LR m xs ys)(n:Nat):LR m (xs.take n) (ys.take n):=by
 refine⟨by simp[h.1],fun i hi=>?_⟩;simp only[List.length_take] at hi;have:=h.2 i (by omega);simpa[List.getD_eq_getElem?_getD,List.getElem?_take,show i<n by omega] using this
theorem LR.drop {m:Mq}{xs ys:List Value}(h:LR m xs ys)(n:Nat):LR m (xs.drop n) (ys.drop n):=by
 refine⟨by simp[h.1],fun i hi=>?_⟩;simp only[List.length_drop] at hi;have:=h.2 (n+i) (by omega);simpa[List.getD_eq_getElem?_getD,List.getElem?_drop] using this
theorem LR.set {m:Mq}{xs ys:List Value}(h:LR m xs ys)(n:Nat){v v':Value}(hv:VR m v v'):LR m (xs.set n v) (ys.set n v'):=by
 refine⟨by simp[h.1],fun i hi=>?_⟩;simp only[List.length_set] at hi;have h2:i<ys.length:=h.1▸hi
 by_cases e:n=i
 ·subst e; simpa[List.getD_eq_getElem?_getD,hi,h2] using hv
 ·simpa[List.getD_eq_getElem?_getD,List.getElem?_set_ne e] using h.2 i hi
theorem LR.get? {m:Mq}{xs ys:List Value}(h:LR m xs ys){i:Nat}{v:Value}(hv:xs[i]?=some v):∃v',ys[i]?=some v'/\VR m v v':=by
 obtain⟨hi,rfl⟩:=List.getElem?_eq_some_iff.1 hv;have h2:i<ys.length:=h.1▸hi;refine⟨ys[i],by simp,?_⟩;simpa[List.getD_eq_getElem?_getD,hi,h2] using h.2 i hi
def flatQ:Value->Bool
 | .bool _ | .int _ _ | .string _ | .pointer none | .slice none _ _ | .map none | .nilFunc | .nilIface=>true
 | _=>false
def constQ:Value->Bool
 | .agg cs=>cs.toList.all flatQ
 | .tuple vs=>vs.size==0
 | v=>flatQ v
theorem VR.flatQ {m:Mq}{v:Value}(h:flatQ v=true):VR m v v:=by
 unfold Q.flatQ at h;split at h
 ·exact .bool _
 ·exact .int _ _
 ·exact .str _
 ·exact .pnil
 ·exact .snil _ _
 ·exact .mnil
 ·exact .fnil
 ·exact .inil
 ·simp at h
theorem LR.flatQ {m:Mq}{l:List Value}(h:l.all Q.flatQ=true):LR m l l:=by
 induction l with
 | nil=>exact .nil
 | cons x l ih =>
  simp only[List.all_cons,Bool.and_eq_true] at h;exact .cons (.flatQ h.1) (ih h.2)
theorem VR.constQ {m:Mq}{v:Value}(h:constQ v=true):VR m v v:=by
 unfold Q.constQ at h;split at h
 ·exact LR.agg (LR.flatQ h)
 ·simp only[beq_iff_eq] at h;exact .tup rfl (fun i hi=>by omega)
 ·exact .flatQ h
theorem VR.flat1 {m m':Mq}{v v':Value}(h:VR m v v')(hf:flat1 v=true):VR m' v v':=by
 cases h<;>simp[Ab.flat1] at hf<;>constructor
theorem LR.flat1 {m m':Mq}{xs ys:List Value}(h:LR m xs ys)(hf:xs.all Ab.flat1=true):LR m' xs ys:=by
 refine⟨h.1,fun i hi=>(h.2 i hi).flat1 ?_⟩;rw[List.all_eq_true] at hf;exact hf _ (by simp[List.getD_eq_getElem?_getD,hi])
theorem VR.flatA {m m':Mq}{v v':Value}(h:VR m v v')(hf:flatA v=true):VR m' v v':=by
 unfold Ab.flatA at hf;split at hf
 ·cases h with
  | agg n h=>exact LR.agg (LR.flat1 (LR.arr.2 ⟨n,h⟩) hf)
 ·exact h.flat1 hf
theorem VR.flat {m m':Mq}{v v':Value}(h:VR m v v')(hf:flat v=true):VR m' v v':=by
 unfold Ab.flat at hf;split at hf
 ·cases h with
  | tup n h =>
   refine .tup n fun i hi=>(h i hi).flatA ?_;rw[List.all_eq_true] at hf;refine hf _ ?_;simp[Array.getD_eq_getD_getElem?,hi]
 ·exact h.flatA hf
theorem VR.cells {m:Mq}{v v':Value}(h:VR m v v'):LR m v.cells.toList v'.cells.toList:=by
 cases h with
 | agg n h=>exact LR.arr.2 ⟨n,h⟩
 | bool b=>exact .cons (.bool b) .nil
 | int k n=>exact .cons (.int k n) .nil
 | str s=>exact .cons (.str s) .nil
 | pnil=>exact .cons .pnil .nil
 | ptr h=>exact .cons (.ptr h) .nil
 | snil n e=>exact .cons (.snil n e) .nil
 | sl h=>exact .cons (.sl h) .nil
 | mnil=>exact .cons .mnil .nil
 | map h=>exact .cons (.map h) .nil
 | fnil=>exact .cons .fnil .nil
 | inil=>exact .cons .inil .nil
 | fn f na nb ha hb=>exact .cons (.fn f na nb ha hb) .nil
 | yl h=>exact .cons (.yl h) .nil
 | iface t h=>exact .cons (.iface t h) .nil
 | tup n h=>exact .cons (.tup n h) .nil
theorem VR.single {m:Mq}{v v':Value}(h:VR m v v'):single v'=single v:=by cases h<;>rfl
theorem VR.flat1_eq {m:Mq}{v v':Value}(h:VR m v v'):Ab.flat1 v'=Ab.flat1 v:=by cases h<;>rfl
theorem LR.all_eq {m:Mq}{p:Value->Bool}(hp:∀v v',VR m v v'->p v'=p v){xs ys:List Value}(h:LR m xs ys):ys.all p=xs.all p:=by
 induction xs generalizing ys with
 | nil=>rw[h.cases_nil]
 | cons x xs ih =>
  obtain⟨y,ys',rfl,h1,h2⟩:=h.cases_cons;simp only[List.all_cons,hp _ _ h1,ih h2]
theorem VR.flatA_eq {m:Mq}{v v':Value}(h:VR m v v'):Ab.flatA v'=Ab.flatA v:=by
 cases h with
 | agg n h=>exact LR.all_eq (fun _ _=>VR.flat1_eq) (LR.arr.2 ⟨n,h⟩)
 | _=>rfl
theorem VR.flat_eq {m:Mq}{v v':Value}(h:VR m v v'):Ab.flat v'=Ab.flat v:=by
 cases h with
 | tup n h=>exact LR.all_eq (fun _ _=>VR.flatA_eq) (LR.arr.2 ⟨n,h⟩)
 | agg n h=>exact LR.all_eq (fun _ _=>VR.flat1_eq) (LR.arr.2 ⟨n,h⟩)
 | _=>rfl
theorem VR.flat1_same {m:Mq}{v v':Value}(h:VR m v v')(hf:Ab.flat1 v=true):v'=v:=by
 cases h<;>first | rfl | simp[Ab.flat1] at hf
theorem LR.flat_same {m:Mq}{p:Value->Bool}(hp:∀v v',VR m v v'->p v=true->v'=v){xs ys:List Value}(h:LR m xs ys)(hf:xs.all p=true):ys=xs:=by
 induction xs generalizing ys with
 | nil=>rw[h.cases_nil]
 | cons x xs ih =>
  obtain⟨y,ys',rfl,h1,h2⟩:=h.cases_cons;simp only[List.all_cons,Bool.and_eq_true] at hf;rw[hp _ _ h1 hf.1,ih h2 hf.2]
theorem VR.flatA_same {m:Mq}{v v':Value}(h:VR m v v')(hf:Ab.flatA v=true):v'=v:=by
 cases h with
 | agg n h =>
  have:=LR.flat_same (fun _ _=>VR.flat1_same) (LR.arr.2 ⟨n,h⟩) hf;rw[Array.toList_inj.1 this]
 | _=>first | rfl | (simp[Ab.flatA,Ab.flat1] at hf; done)
theorem VR.flat_same {m:Mq}{v v':Value}(h:VR m v v')(hf:Ab.flat v=true):v'=v:=by
 cases h with
 | tup n h =>
  have:=LR.flat_same (fun _ _=>VR.flatA_same) (LR.arr.2 ⟨n,h⟩) hf;rw[Array.toList_inj.1 this]
 | agg n h=>exact VR.flatA_same (.agg n h) hf
 | _=>first | rfl | (simp[Ab.flat,Ab.flatA,Ab.flat1] at hf; done)
theorem VR.bool' {m:Mq}{b:Bool}{v':Value}(h:VR m (.bool b) v'):v'=.bool b:=by cases h; rfl
theorem VR.int' {m:Mq}{k:IntKind}{n:Int}{v':Value}(h:VR m (.int k n) v'):v'=.int k n:=by cases h; rfl
theorem VR.str' {m:Mq}{s:ByteArray}{v':Value}(h:VR m (.string s) v'):v'=.string s:=by cases h; rfl
theorem VR.ptr' {m:Mq}{b o:Nat}{v':Value}(h:VR m (.pointer (some ⟨b,o,none⟩)) v'):∃b',m b=some b'/\v'=.pointer (some ⟨b',o,none⟩):=by
 cases h with | ptr h=>exact⟨_,h,rfl⟩
theorem VR.pnil' {m:Mq}{v':Value}(h:VR m (.pointer none) v'):v'=.pointer none:=by cases h; rfl
theorem VR.ptrA {m:Mq}{a:Addr}{v':Value}(h:VR m (.pointer (some a)) v'):∃b o b',a=⟨b,o,none⟩/\m b=some b'/\v'=.pointer (some ⟨b',o,none⟩):=by
 cases h with | ptr h=>exact⟨_,_,_,rfl,h,rfl⟩
theorem VR.sl' {m:Mq}{b o n e:Nat}{v':Value}(h:VR m (.slice (some ⟨b,o,none⟩) n e) v'):∃b',m b=some b'/\v'=.slice (some ⟨b',o,none⟩) n e:=by
 cases h with | sl h=>exact⟨_,h,rfl⟩
theorem VR.slA {m:Mq}{a:Addr}{n e:Nat}{v':Value}(h:VR m (.slice (some a) n e) v'):∃b o b',a=⟨b,o,none⟩/\m b=some b'/\v'=.slice (some ⟨b',o,none⟩) n e:=by
 cases h with | sl h=>exact⟨_,_,_,rfl,h,rfl⟩
theorem VR.snil' {m:Mq}{n e:Nat}{v':Value}(h:VR m (.slice none n e) v'):v'=.slice none n e:=by cases h; rfl
theorem VR.mnil' {m:Mq}{v':Value}(h:VR m (.map none) v'):v'=.map none:=by cases h; rfl
theorem VR.map' {m:Mq}{b:Nat}{v':Value}(h:VR m (.map (some b)) v'):∃b',m b=some b'/\v'=.map (some b'):=by
 cases h with | map h=>exact⟨_,h,rfl⟩
theorem VR.agg' {m:Mq}{xs:Array Value}{v':Value}(h:VR m (.agg xs) v'):∃ys,v'=.agg ys/\LR m xs.toList ys.toList:=by
 cases h with | agg n h=>exact⟨_,rfl,LR.arr.2 ⟨n,h⟩⟩
theorem VR.tup' {m:Mq}{xs:Array Value}{v':Value}(h:VR m (.tuple xs) v'):∃ys,v'=.tuple ys/\LR m xs.toList ys.toList:=by
 cases h with | tup n h=>exact⟨_,rfl,LR.arr.2 ⟨n,h⟩⟩
theorem VR.fn' {m:Mq}{f:FuncId}{a b:Array Value}{v':Value}(h:VR m (.func (.func f) a b) v'):∃a' b',v'=.func (.func f) a' b'/\LR m a.toList a'.toList/\LR m b.toList b'.toList:=by
 cases h with | fn f na nb ha hb=>exact⟨_,_,rfl,LR.arr.2 ⟨na,ha⟩,LR.arr.2 ⟨nb,hb⟩⟩
theorem VR.yl' {m:Mq}{l:Nat}{a b:Array Value}{v':Value}(h:VR m (.func (.yield l) a b) v'):∃l',m l=some l'/\a=#[]/\b=#[]/\v'=.func (.yield l') #[] #[]:=by
 cases h with | yl h=>exact⟨_,h,rfl,rfl,rfl⟩
def okX:Operand->Bool
 | .tmp _=>true
 | .const v=>constQ v
 | .global _=>false
 | .func _=>true
def okXs (l:List Operand):Bool:=l.all okX
def okO:Option Operand->Bool
 | none=>true
 | some x=>okX x
def okPs (l:List (Nat×Nat×Operand)):Bool:=l.all fun(_,_,x)=>okX x
def okZ (l:List Value):Bool:=l.all flatQ
def okOp:AOp->Bool
 | .mov x | .un _ x | .box x | .ld x | .ldn _ x | .nilc x | .off _ x | .fld _ _ _ x | .i2i _ x | .i2s x | .s2b x | .b2s x | .ifc _ x | .ext x _ | .arrP _ x | .lnT x | .lnS x | .s2s x | .lnM x | .rng x | .nxt x | .isnil _ _ x=>okX x
 | .pick c a b=>okX c&&okX a&&okX b
 | .bin _ x y | .eqd _ _ _ x y | .st _ x y | .ixA _ _ x y | .ixS _ x y | .chS x y | .el _ _ _ x y | .app _ _ x y | .copy _ x y=>okX x&&okX y
 | .zero cs=>okZ cs
 | .build z ps | .bsl _ z ps _=>okZ z&&okPs ps
 | .cutT x lo hi | .cutS _ x lo hi | .cutA _ _ x lo hi=>okX x&&okO lo&&okO hi
 | .fn _ a b=>okXs a&&okXs b
 | .mkS _ _ z l c=>okZ z&&okX l&&okX c
 | .mkM | .lnA _=>true
 | .mput _ x k v=>okX x&&okX k&&okX v
 | .mget _ z _ _ x k=>okZ z&&okX x&&okX k
 | .mnV xs | .mxV xs=>okXs xs
 | .clrS _ z x=>okZ z&&okX x
 | .call f args=>okX f&&okXs args
def okI:AI->Bool
 | .op _ _ o | .chk _ _ o=>okOp o
def okC:AC->Bool
 | .skip | .exit _ | .ret | .bad=>true
 | .reg l=>l.all okI
 | .seq a b=>okC a&&okC b
 | .cond c a b=>okX c&&okC a&&okC b
 | .block _ a | .loop a=>okC a
 | .rf g _ _ _ _ aa ba=>okX g&&okC aa&&okC ba
inductive ER (m:Mq):List (Value×Value)->List (Value×Value)->Prop
 | nil:ER m [] []
 | cons {k v k' v':Value} {l l':List (Value×Value)} (hk:VR m k k') (hv:VR m v v') (hl:ER m l l'):ER m ((k,v)::l) ((k',v')::l')
theorem ER.mono {m m':Mq}(hs:Sub m m'){l l':List (Value×Value)}(h:ER m l l'):ER m' l l':=by
 induction h with
 | nil=>exact .nil
 | cons hk hv _ ih=>exact .cons (hk.mono hs) (hv.mono hs) ih
inductive BR (m:Mq):Blk->Blk->Prop
 | cells (own:Bool) {cs cs':List Value} (h:LR m cs cs'):BR m (.cells own cs) (.cells own cs')
 | dead:BR m .dead .dead
 | map {es es':List (Value×Value)} (h:ER m es es'):BR m (.map es) (.map es')
 | iter (s:ByteArray) (pos:Nat):BR m (.iter s pos) (.iter s pos)
 | loop (n:Nat) {f f':Fr} (ps:List Nat) (ca cb:Code) (aa ba:AC) (st:RS) (h:LR m f f') (ha:okC aa=true) (hb:okC ba=true):BR m (.loop n f ps ca cb aa ba st) (.loop n f' ps ca cb aa ba st)
theorem BR.mono {m m':Mq}(hs:Sub m m'){k k':Blk}(h:BR m k k'):BR m' k k':=by
 cases h with
 | cells own h=>exact .cells own (h.mono hs)
 | dead=>exact .dead
 | map h=>exact .map (h.mono hs)
 | iter s pos=>exact .iter s pos
 | loop n ps ca cb aa ba st h ha hb=>exact .loop n ps ca cb aa ba st (h.mono hs) ha hb
def BA (m:Mq)(h h':Hp)(b b':Nat):Prop:=∃k k',h[b]?=some k/\h'[b']?=some k'/\BR m k k'
structure HR (m:Mq)(h h':Hp):Prop where
 blk:∀b b',m b=some b'->BA m h h' b b'
 inj:∀b c b',m b=some b'->m c=some b'->b=c
theorem BA.lt {m:Mq}{h h':Hp}{b b':Nat}(k:BA m h h' b b'):b<h.length/\b'<h'.length:=by
 obtain⟨_,_,e,e',_⟩:=k;exact⟨(List.getElem?_eq_some_iff.1 e).1,(List.getElem?_eq_some_iff.1 e').1⟩
theorem HR.lt {m:Mq}{h h':Hp}(H:HR m h h'){b b':Nat}(e:m b=some b'):b<h.length/\b'<h'.length:=(H.blk b b' e).lt
structure Step (lim:Nat)(m:Mq)(h h':Hp)(m1:Mq)(h1 h1':Hp):Prop where
 ext:Sub m m1
 new:∀b b',m1 b=some b'->m b=none->h.length<=b/\h'.length<=b'
 len:h.length<=h1.length
 len':h'.length<=h1'.length
 af:∀b,b<h.length->m b=none->h1[b]?=h[b]?
 af':∀b',b'<h'.length->(∀b,m b≠some b')->h1'[b']?=h'[b']?
 low:∀m0,Sub m0 m->∀b b',m b=some b'->b<lim->BA m0 h h' b b'->BA m0 h1 h1' b b'
theorem Step.refl (lim:Nat)(m:Mq)(h h':Hp):Step lim m h h' m h h' :=
 ⟨Sub.refl m,fun b p e e'=>by rw[e] at e'; exact absurd e' (by simp),Nat.le_refl _,Nat.le_refl _,fun _ _ _=>rfl,fun _ _ _=>rfl,fun _ _ _ _ _ _ h=>h⟩
theorem Step.trans {lim:Nat}{m m1 m2:Mq}{h h' h1 h1' h2 h2':Hp}(s:Step lim m h h' m1 h1 h1')(t:Step lim m1 h1 h1' m2 h2 h2'):Step lim m h h' m2 h2 h2':=by
 refine⟨s.ext.trans t.ext,fun b b' e e0=>?_,Nat.le_trans s.len t.len,Nat.le_trans s.len' t.len',fun b hb e=>?_,fun b' hb e=>?_,fun m0 hs b b' e hl k=>?_⟩
 ·cases e1:m1 b with
  | some q =>
   have:=t.ext _ _ e1;rw[e] at this; cases this;exact s.new b b' e1 e0
  | none =>
   obtain⟨n1,n2⟩:=t.new b b' e e1;exact⟨Nat.le_trans s.len n1,Nat.le_trans s.len' n2⟩
 ·cases e1:m1 b with
  | some q =>
   have:=(s.new b q e1 e).1;omega
  | none=>exact(t.af b (Nat.lt_of_lt_of_le hb s.len) e1).trans (s.af b hb e)
 ·refine(t.af' b' (Nat.lt_of_lt_of_le hb s.len') fun b e1=>?_).trans (s.af' b' hb e);cases e0:m b with
  | some q =>
   have:=s.ext _ _ e0;rw[e1] at this; cases this;exact e b e0
  | none =>
   have:=(s.new b b' e1 e0).2;omega
 ·exact t.low m0 (hs.trans s.ext) b b' (s.ext _ _ e) hl (s.low m0 hs b b' e hl k)
def LimM (lim lim':Nat)(m:Mq)(h':Hp):Prop:=(∀b b',m b=some b'->lim<=b->lim'<=b')/\lim'<=h'.length
theorem LimM.step {lim lim' l:Nat}{m m1:Mq}{h h' h1 h1':Hp}(hl:LimM lim lim' m h')(s:Step l m h h' m1 h1 h1'):LimM lim lim' m1 h1':=by
 refine⟨fun b b' e hb=>?_,Nat.le_trans hl.2 s.len'⟩;cases e0:m b with
 | some q =>
  have:=s.ext _ _ e0;rw[e] at this; cases this;exact hl.1 b b' e0 hb
 | none=>exact Nat.le_trans hl.2 (s.new b b' e e0).2
def ins (m:Mq)(b b':Nat):Mq:=fun c=>if c=b then some b' else m c
theorem alloc {lim:Nat}{m:Mq}{h h':Hp}(H:HR m h h'){k k':Blk}(hk:BR (ins m h.length h'.length) k k') :
  HR (ins m h.length h'.length) (h++[k]) (h'++[k'])/\Step lim m h h' (ins m h.length h'.length) (h++[k]) (h'++[k'])/\ins m h.length h'.length h.length=some h'.length:=by
 have hsub:Sub m (ins m h.length h'.length):=by
  intro b b' e;have:=(H.lt e).1;simp only[ins];rw[if_neg (by omega)];exact e
 have old:∀ {m0:Mq} {b b':Nat},BA m0 h h' b b'->BA m0 (h++[k]) (h'++[k']) b b':=by
  intro m0 b b' q;have⟨l1,l2⟩:=q.lt;obtain⟨k1,k1',e1,e2,e3⟩:=q;exact⟨k1,k1',by rw[List.getElem?_append_left l1]; exact e1,by rw[List.getElem?_append_left l2]; exact e2,e3⟩
 refine⟨⟨fun b b' e=>?_,fun b c b' e1 e2=>?_⟩,⟨hsub,fun b b' e e0=>?_,by simp,by simp,fun b hb _=>List.getElem?_append_left hb,fun b' hb _=>List.getElem?_append_left hb,fun m0 _ b b' _ _ q=>old q⟩,by simp[ins]⟩
 ·simp only[ins] at e;split at e
  ·rename_i hb;subst hb;cases e;exact⟨k,k',by simp,by simp,hk⟩
  ·obtain⟨k1,k1',e1,e2,e3⟩:=old (H.blk b b' e);exact⟨k1,k1',e1,e2,e3.mono hsub⟩
 ·simp only[ins] at e1 e2;split at e1
  ·rename_i hb;cases e1;split at e2
   ·rename_i hc; omega
   ·have:=(H.lt e2).2; omega
  ·split at e2
   ·cases e2;have:=(H.lt e1).2; omega
   ·exact H.inj _ _ _ e1 e2
 ·simp only[ins] at e;split at e
  ·rename_i hb;cases e;exact⟨by omega,Nat.le_refl _⟩
  ·rw[e] at e0; cases e0
theorem setB {lim:Nat}{m:Mq}{h h':Hp}(H:HR m h h'){b b':Nat}{k k':Blk}(e:m b=some b')(hk:BR m k k')(hl:b<lim->∀m0,Sub m0 m->BA m0 h h' b b'->BR m0 k k') :
  HR m (h.set b k) (h'.set b' k')/\Step lim m h h' m (h.set b k) (h'.set b' k'):=by
 have⟨l1,l2⟩:=H.lt e
 have other:∀ {m0:Mq} {c c':Nat},c≠b->c'≠b'->BA m0 h h' c c'->BA m0 (h.set b k) (h'.set b' k') c c':=by
  intro m0 c c' n1 n2 q;obtain⟨k1,k1',e1,e2,e3⟩:=q;exact⟨k1,k1',by rw[List.getElem?_set_ne (Ne.symm n1)]; exact e1,by rw[List.getElem?_set_ne (Ne.symm n2)]; exact e2,e3⟩
 have ne:∀ {c c':Nat},m c=some c'->c≠b->c'≠b':=fun ec nc hc=>nc (H.inj _ _ _ (hc▸ec) e);refine⟨⟨fun c c' ec=>?_,H.inj⟩,⟨Sub.refl m,fun c c' e1 e0=>absurd (e1.symm.trans e0) (by simp),by simp,by simp,fun c hc e0=>?_,fun c' hc e0=>?_,fun m0 hs c c' ec hlim q=>?_⟩⟩
 ·by_cases hc:c=b
  ·subst hc;rw[e] at ec; cases ec;exact⟨k,k',by simp[l1],by simp[l2],hk⟩
  ·exact other hc (ne ec hc) (H.blk c c' ec)
 ·exact List.getElem?_set_ne (by intro hb; subst hb; rw[e] at e0; cases e0)
 ·exact List.getElem?_set_ne (by intro hb; subst hb; exact e0 b e)
 ·by_cases hc:c=b
  ·subst hc;rw[e] at ec; cases ec;exact⟨k,k',by simp[l1],by simp[l2],hl hlim m0 hs q⟩
  ·exact other hc (ne ec hc) q
end Go.Ab.Q
namespace Go.Ab.Q
variable {lim lim':Nat}{m:Mq}{h h' h1:Hp}{v:Value}{ρ ρ':Operand->Value}
theorem rdC_q (H:HR m h h'){b o b':Nat}(e:m b=some b')(hr:rdC h b o=some v):∃v',rdC h' b' o=some v'/\VR m v v':=by
 obtain⟨k,k',e1,e2,e3⟩:=H.blk b b' e;unfold rdC at hr ⊢;rw[e1] at hr; rw[e2];cases e3 with
 | cells own hc =>
  simp only at hr ⊢;exact hc.get? hr
 | _=>simp at hr
theorem rdN_q (H:HR m h h'){b o n b':Nat}{l:List Value}(e:m b=some b')(hr:rdN h b o n=some l):∃l',rdN h' b' o n=some l'/\LR m l l':=by
 obtain⟨k,k',e1,e2,e3⟩:=H.blk b b' e;unfold rdN at hr ⊢;rw[e1] at hr; rw[e2];cases e3 with
 | cells own hc =>
  simp only at hr ⊢;split at hr
  ·rename_i hl;cases hr;rw[if_pos (by rw[<- hc.1]; exact hl)];exact⟨_,rfl,(hc.drop o).take n⟩
  ·cases hr
 | _=>simp at hr
theorem lay_q {m:Mq}{vs vs':List Value}(hv:LR m vs vs'):∀ {cs cs':List Value} {o:Nat},LR m cs cs'->LR m (lay cs o vs) (lay cs' o vs'):=by
 induction vs generalizing vs' with
 | nil=>intro cs cs' o hc; rw[hv.cases_nil]; exact hc
 | cons x vs ih =>
  intro cs cs' o hc;obtain⟨y,ys,rfl,h1,h2⟩:=hv.cases_cons;exact ih h2 (hc.set o h1)
theorem wrN_q (H:HR m h h')(hL:LimM lim lim' m h'){b o b':Nat}{vs vs':List Value}(e:m b=some b')(hv:LR m vs vs')(hr:wrN lim h b o vs=some h1) :
  ∃h1',wrN lim' h' b' o vs'=some h1'/\HR m h1 h1'/\Step lim m h h' m h1 h1':=by
 obtain⟨k,k',e1,e2,e3⟩:=H.blk b b' e;unfold wrN at hr ⊢;rw[e1] at hr; rw[e2];cases e3 with
 | cells own hc =>
  cases own with
  | true =>
   simp only at hr ⊢;split at hr
   ·rename_i hl;obtain⟨l1,l2,l3⟩:=hl;cases hr
    rw[if_pos ⟨by rw[<- hc.1,<- hv.1]; exact l1,by rw[LR.all_eq (fun _ _=>VR.single) hv]; exact l2,by
     rcases l3 with l3 | l3
     ·exact Or.inl (hL.1 b b' e l3)
     ·exact Or.inr (by rw[LR.all_eq (fun _ _=>VR.flat1_eq) hv]; exact l3)⟩]
    refine⟨_,rfl,setB H e (.cells true (lay_q hv hc)) fun hb m0 hs q=>?_⟩;obtain⟨k1,k1',f1,f2,f3⟩:=q;rw[e1] at f1; rw[e2] at f2;cases f1; cases f2;cases f3 with
    | cells _ hc0 =>
     rcases l3 with l3 | l3
     ·omega
     ·exact .cells true (lay_q (hv.flat1 l3) hc0)
   ·cases hr
  | false=>simp at hr
 | _=>simp at hr
theorem keyEq_inv {s:Bool}{k k1:Value}{b:Bool}(hr:keyEq s k k1=some b):(∃t n t' n',k=.int t n/\k1=.int t' n')\/∃x y,k=.string x/\k1=.string y:=by
 unfold keyEq at hr;split at hr
 ·exact Or.inl ⟨_,_,_,_,rfl,rfl⟩
 ·exact Or.inr ⟨_,_,rfl,rfl⟩
 ·cases hr
theorem keyEq_q {m:Mq}{s:Bool}{k k1 k' k1':Value}{b:Bool}(hk:VR m k k')(hk1:VR m k1 k1')(hr:keyEq s k k1=some b):keyEq s k' k1'=some b:=by
 rcases keyEq_inv hr with⟨_,_,_,_,rfl,rfl⟩ | ⟨_,_,rfl,rfl⟩
 ·rw[hk.int',hk1.int']; exact hr
 ·rw[hk.str',hk1.str']; exact hr
theorem mfind_q {m:Mq}{s:Bool}{k k':Value}(hk:VR m k k'){es es':List (Value×Value)}(he:ER m es es'):∀ {i:Nat},
  (mfind s k es i=some none->mfind s k' es' i=some none)/\∀j v,mfind s k es i=some (some (j,v))->∃v',mfind s k' es' i=some (some (j,v'))/\VR m v v':=by
 induction he with
 | nil =>
  intro i;refine⟨fun hr=>?_,fun j v hr=>?_⟩
  ·simp only[mfind] at hr ⊢;split at hr
   ·rename_i hki
    have:keyIs s k'=true:=by
     unfold keyIs at hki;split at hki
     ·rw[hk.int']; rfl
     ·rw[hk.str']; rfl
     ·cases hki
    rw[if_pos this]
   ·cases hr
  ·simp only[mfind] at hr;split at hr<;>cases hr
 | cons hk1 hv1 hl ih =>
  intro i;refine⟨fun hr=>?_,fun j v hr=>?_⟩
  ·simp only[mfind] at hr ⊢;split at hr
   ·cases hr
   ·rename_i e; rw[keyEq_q hk hk1 e]; exact ih.1 hr
   ·cases hr
  ·simp only[mfind] at hr ⊢;split at hr
   ·rename_i e; rw[keyEq_q hk hk1 e]; cases hr; exact⟨_,rfl,hv1⟩
   ·rename_i e; rw[keyEq_q hk hk1 e]; exact ih.2 j v hr
   ·cases hr
theorem mfind_key {s:Bool}{k:Value}{es:List (Value×Value)}{r:Option (Nat×Value)}:∀ {i:Nat},mfind s k es i=some r->flat1 k=true:=by
 induction es with
 | nil =>
  intro i hr;simp only[mfind] at hr;split at hr
  ·rename_i hk;unfold keyIs at hk;split at hk
   ·rfl
   ·rfl
   ·cases hk
  ·cases hr
 | cons e es ih =>
  intro i hr;simp only[mfind] at hr;split at hr
  ·rename_i e; rcases keyEq_inv e with⟨_,_,_,_,rfl,_⟩ | ⟨_,_,rfl,_⟩<;>rfl
  ·exact ih hr
  ·cases hr
theorem ER.set {m:Mq}{es es':List (Value×Value)}(he:ER m es es'){k v k' v':Value}(hk:VR m k k')(hv:VR m v v'):∀(i:Nat),ER m (es.set i (k,v)) (es'.set i (k',v')):=by
 induction he with
 | nil=>intro i; exact .nil
 | cons hk1 hv1 hl ih =>
  intro i;cases i with
  | zero=>exact .cons hk hv hl
  | succ i=>exact .cons hk1 hv1 (ih i)
theorem ER.push {m:Mq}{es es':List (Value×Value)}(he:ER m es es'){k v k' v':Value}(hk:VR m k k')(hv:VR m v v'):ER m (es++[(k,v)]) (es'++[(k',v')]):=by
 induction he with
 | nil=>exact .cons hk hv .nil
 | cons hk1 hv1 hl ih=>exact .cons hk1 hv1 ih
theorem ER.length {m:Mq}{es es':List (Value×Value)}(he:ER m es es'):es'.length=es.length:=by
 induction he with
 | nil=>rfl
 | cons _ _ _ ih=>simp[ih]
theorem mapOf_q (H:HR m h h'){x x':Value}{es:List (Value×Value)}(hx:VR m x x')(hr:mapOf h x=some es):∃es',mapOf h' x'=some es'/\ER m es es':=by
 unfold mapOf at hr;split at hr
 ·cases hr;rw[hx.mnil'];exact⟨[],rfl,.nil⟩
 ·obtain⟨b',e,rfl⟩:=hx.map';split at hr
  ·rename_i eb;cases hr;obtain⟨k,k',e1,e2,e3⟩:=H.blk _ b' e;rw[eb] at e1; cases e1;cases e3 with
   | map he=>exact⟨_,by simp only[mapOf,e2],he⟩
  ·cases hr
 ·cases hr
theorem srcOf_q (H:HR m h h'){es n:Nat}{x x':Value}{l:List Value}(hx:VR m x x')(hr:srcOf h es x=some (n,l)):∃l',srcOf h' es x'=some (n,l')/\LR m l l':=by
 unfold srcOf at hr;split at hr
 ·cases hr;rw[hx.snil'];exact⟨[],rfl,.nil⟩
 ·obtain⟨b',e,rfl⟩:=hx.sl';split at hr
  ·rename_i he;simp only[Option.map_eq_some_iff,Prod.mk.injEq] at hr;obtain⟨l0,hl0,rfl,rfl⟩:=hr;obtain⟨l',q1,q2⟩:=rdN_q H e hl0;exact⟨l',by simp only[srcOf,if_pos he,q1,Option.map_some],q2⟩
  ·cases hr
 ·rw[hx.str'];split at hr
  ·rename_i he;cases hr;refine⟨_,by simp only[srcOf,if_pos he],LR.flatQ ?_⟩;simp only[List.all_eq_true,List.mem_map];rintro _ ⟨b,_,rfl⟩;rfl
  ·cases hr
 ·cases hr
theorem bytesOf_q {m:Mq}{l l':List Value}{x:List UInt8}(hl:LR m l l')(hr:bytesOf l=some x):bytesOf l'=some x:=by
 induction l generalizing l' x with
 | nil=>rw[hl.cases_nil]; exact hr
 | cons a l ih =>
  obtain⟨y,ys,rfl,h1,h2⟩:=hl.cases_cons;unfold bytesOf at hr;split at hr
  ·cases ‹_::_=[]›
  ·rename_i n l0 e;cases e;simp only[Option.map_eq_some_iff] at hr;obtain⟨z,hz,rfl⟩:=hr;rw[h1.int'];simp only[bytesOf,ih h2 hz,Option.map_some]
  ·cases hr
theorem fillL_q (hρ:∀x,okX x=true->VR m (ρ x) (ρ' x)):∀ {ps:List (Nat×Nat×Operand)} {z z' cs:List Value},okPs ps=true->LR m z z'->fillL z (ps.map fun(o,n,x)=>(o,n,ρ x))=some cs ->
  ∃cs',fillL z' (ps.map fun(o,n,x)=>(o,n,ρ' x))=some cs'/\LR m cs cs':=by
 intro ps
 induction ps with
 | nil=>intro z z' cs _ hz hr; cases hr; exact⟨z',rfl,hz⟩
 | cons p ps ih =>
  intro z z' cs hok hz hr;obtain⟨o,n,x⟩:=p;simp only[okPs,List.all_cons,Bool.and_eq_true] at hok;simp only[List.map_cons,fillL] at hr ⊢;have hx:=(hρ x hok.1).cells;split at hr
  ·rename_i hc;rw[if_pos (by rw[<- hx.1,<- hz.1]; exact hc)];exact ih hok.2 (lay_q hx hz) hr
  ·cases hr
inductive OR (m:Mq):Option Value->Option Value->Prop
 | none:OR m none none
 | some {v v':Value} (h:VR m v v'):OR m (some v) (some v')
theorem OR.of (hρ:∀x,okX x=true->VR m (ρ x) (ρ' x)){x:Option Operand}(hx:okO x=true):OR m (x.map ρ) (x.map ρ'):=by
 cases x with
 | none=>exact .none
 | some x=>exact .some (hρ x hx)
theorem bound_q {lo lo' hi hi':Option Value}{n:Nat}{r:Nat×Nat}(hl:OR m lo lo')(hh:OR m hi hi')(hr:bound lo hi n=some r):bound lo' hi' n=some r:=by
 cases hl with
 | none =>
  cases hh with
  | none=>exact hr
  | some h=>unfold bound at hr; split at hr<;>first | (rename_i e1 e2; cases e2; rw[h.int']; exact hr) | (simp_all; done)
 | some hv =>
  cases hh with
  | none=>unfold bound at hr; split at hr<;>first | (rename_i e1 e2; cases e1; rw[hv.int']; exact hr) | (simp_all; done)
  | some h=>unfold bound at hr; split at hr<;>first | (rename_i e1 e2; cases e1; cases e2; rw[h.int',hv.int']; exact hr) | (simp_all; done)
theorem lkEq_q {k:LK}{x y x' y':Value}{b:Bool}(hx:VR m x x')(hy:VR m y y')(hr:lkEq k x y=some b):lkEq k x' y'=some b:=by
 unfold lkEq at hr;split at hr
 ·rw[hx.int',hy.int']; exact hr
 ·rw[hx.str',hy.str']; exact hr
 ·rw[hx.bool',hy.bool']; exact hr
 ·cases hr
theorem lksEq_q {ks:List LK}:∀ {x y x' y':List Value} {b:Bool},LR m x x'->LR m y y'->lksEq ks x y=some b->lksEq ks x' y'=some b:=by
 induction ks with
 | nil =>
  intro x y x' y' b hx hy hr;cases x with
  | cons _ _=>simp[lksEq] at hr
  | nil =>
   cases y with
   | cons _ _=>simp[lksEq] at hr
   | nil=>rw[hx.cases_nil,hy.cases_nil]; exact hr
 | cons k ks ih =>
  intro x y x' y' b hx hy hr;cases x with
  | nil=>simp[lksEq] at hr
  | cons a x =>
   cases y with
   | nil=>simp[lksEq] at hr
   | cons c y =>
    obtain⟨a',x',rfl,h1,h2⟩:=hx.cases_cons;obtain⟨c',y',rfl,h3,h4⟩:=hy.cases_cons;simp only[lksEq] at hr ⊢;split at hr
    ·rename_i e1 e2;rw[lkEq_q h1 h3 e1,ih h2 h4 e2]; exact hr
    ·cases hr
theorem eqV_q {agg:Bool}{ks:List LK}{x y x' y':Value}{b:Bool}(hx:VR m x x')(hy:VR m y y')(hr:eqV agg ks x y=some b):eqV agg ks x' y'=some b:=by
 unfold eqV at hr;split at hr
 ·obtain⟨a,rfl,h1⟩:=hx.agg';obtain⟨c,rfl,h2⟩:=hy.agg';exact lksEq_q h1 h2 hr
 ·cases hr
 ·exact lksEq_q (.cons hx .nil) (.cons hy .nil) hr
theorem isNil_q {k:NK}{x x':Value}(hx:VR m x x'):isNil k x'=isNil k x:=by
 cases hx<;>cases k<;>rfl
theorem abin_q {op:BinOp}{x y x' y' u:Value}(hx:VR m x x')(hy:VR m y y')(hr:abin op x y=some u):abin op x' y'=some u/\VR m u u:=by
 have hv:VR m u u:=by
  unfold abin at hr
  repeat' split at hr
  all_goals first
   | (cases hr; done)
   | (cases hr; constructor)
 refine⟨?_,hv⟩
 have hu:(∃k a k' b,x=.int k a/\y=.int k' b)\/(∃a b,x=.string a/\y=.string b):=by
  unfold abin at hr;split at hr
  ·exact Or.inl ⟨_,_,_,_,rfl,rfl⟩
  ·exact Or.inr ⟨_,_,rfl,rfl⟩
  ·cases hr
 rcases hu with⟨_,_,_,_,rfl,rfl⟩ | ⟨_,_,rfl,rfl⟩
 ·rw[hx.int',hy.int']; exact hr
 ·rw[hx.str',hy.str']; exact hr
theorem aun_q {op:UnOp}{x x' u:Value}(hx:VR m x x')(hr:aun op x=some u):aun op x'=some u/\VR m u u:=by
 unfold aun at hr;split at hr
 ·cases hr; rw[hx.int']; exact⟨rfl,.int _ _⟩
 ·cases hr; rw[hx.int']; exact⟨rfl,.int _ _⟩
 ·cases hr; rw[hx.bool']; exact⟨rfl,.bool _⟩
 ·cases hr
theorem maps_q (hρ:∀x,okX x=true->VR m (ρ x) (ρ' x)){l:List Operand}(hl:okXs l=true):LR m (l.map ρ) (l.map ρ'):=by
 induction l with
 | nil=>exact .nil
 | cons x l ih =>
  simp only[okXs,List.all_cons,Bool.and_eq_true] at hl;exact .cons (hρ x hl.1) (ih hl.2)
theorem foldV_q {g:Value->Value->Option Value}(hg:∀x y z,g x y=some z->(∃k n,x=.int k n)/\(∃k n,y=.int k n)/\∃k n,z=.int k n):∀ {l l':List Value} {x x' z:Value},VR m x x'->LR m l l'->foldV g x l=some z->mini x=true->foldV g x' l'=some z/\VR m z z:=by
 intro l
 induction l with
 | nil =>
  intro l' x x' z hx hl hr hm;rw[hl.cases_nil];cases hr;unfold mini at hm;split at hm
  ·rw[hx.int']; exact⟨rfl,.int _ _⟩
  ·cases hm
 | cons y l ih =>
  intro l' x x' z hx hl hr hm;obtain⟨y',l',rfl,h1,h2⟩:=hl.cases_cons;simp only[foldV] at hr ⊢;split at hr
  ·rename_i w e;obtain⟨⟨_,_,rfl⟩,⟨_,_,rfl⟩,⟨_,_,rfl⟩⟩:=hg _ _ _ e;rw[hx.int',h1.int',e];exact ih (.int _ _) h2 hr rfl
  ·cases hr
theorem mn2_int (x y z:Value)(e:mn2 x y=some z):(∃k n,x=.int k n)/\(∃k n,y=.int k n)/\∃k n,z=.int k n:=by
 unfold mn2 at e;split at e
 ·split at e
  ·cases e; exact⟨⟨_,_,rfl⟩,⟨_,_,rfl⟩,⟨_,_,rfl⟩⟩
  ·cases e
 ·cases e
theorem mx2_int (x y z:Value)(e:mx2 x y=some z):(∃k n,x=.int k n)/\(∃k n,y=.int k n)/\∃k n,z=.int k n:=by
 unfold mx2 at e;split at e
 ·split at e
  ·cases e; exact⟨⟨_,_,rfl⟩,⟨_,_,rfl⟩,⟨_,_,rfl⟩⟩
  ·cases e
 ·cases e
theorem zeroVal_q {agg:Bool}{z:List Value}(hz:okZ z=true):VR m (zeroVal agg z) (zeroVal agg z):=by
 have:=LR.flatQ (m:=m) hz;unfold zeroVal;split
 ·exact this.aggL
 ·cases z with
  | nil=>exact VR.undef
  | cons x l=>exact this.head
theorem repl_q {n:Nat}{z:List Value}(hz:okZ z=true):LR m (repl n z) (repl n z):=by
 refine LR.flatQ ?_;simp only[okZ,List.all_eq_true] at hz;simp only[repl,List.all_eq_true,List.mem_flatten,List.mem_replicate];rintro x ⟨l,⟨_,rfl⟩,hx⟩;exact hz x hx
def Done (lim lim':Nat)(o:AOp)(ρ':Operand->Value)(m:Mq)(h h':Hp)(v:Value)(h1:Hp):Prop :=
 ∃v' h1' m1,o.run lim' ρ' h'=some (v',h1')/\VR m1 v v'/\HR m1 h1 h1'/\Step lim m h h' m1 h1 h1'
theorem Done.pure {o:AOp}{v':Value}(H:HR m h h')(hr:o.run lim' ρ' h'=some (v',h'))(hv:VR m v v'):Done lim lim' o ρ' m h h' v h :=
 ⟨v',h',m,hr,hv,H,Step.refl _ _ _ _⟩
theorem Done.alloc {o:AOp}{k k':Blk}{u:Nat->Value}(H:HR m h h')(hr:o.run lim' ρ' h'=some (u h'.length,h'++[k']))(hk:∀m',Sub m m'->BR m' k k')(hv:∀m' b b',m' b=some b'->VR m' (u b) (u b')) :
  Done lim lim' o ρ' m h h' (u h.length) (h++[k]):=by
 have hs:Sub m (ins m h.length h'.length):=by
  intro b b' e;have:=(H.lt e).1;simp only[ins];rw[if_neg (by omega)];exact e
 obtain⟨a1,a2,a3⟩:=Q.alloc (lim:=lim) H (hk _ hs);exact⟨_,_,_,hr,hv _ _ _ a3,a1,a2⟩
end Go.Ab.Q
namespace Go.Ab.Q
variable {lim lim':Nat}{m:Mq}{h h' h1:Hp}{v:Value}{ρ ρ':Operand->Value}
theorem getD_ext {xs ys:Array Value}(hl:LR m xs.toList ys.toList){i:Nat}{v:Value}(hv:xs[i]?=some v):∃v',ys[i]?=some v'/\VR m v v':=by
 have:xs.toList[i]?=some v:=by simpa using hv
 obtain⟨v',e,r⟩:=hl.get? this;exact⟨v',by simpa using e,r⟩
theorem ext_q {xs ys:Array Value}(hl:LR m xs.toList ys.toList)(i j:Nat):VR m (.agg (xs.extract i j)) (.agg (ys.extract i j)):=by
 refine LR.agg ?_;simp only[Array.toList_extract,List.extract_eq_take_drop];exact(hl.drop _).take _
theorem run_q {o:AOp}(ho:okOp o=true)(H:HR m h h')(hL:LimM lim lim' m h')(hρ:∀x,okX x=true->VR m (ρ x) (ρ' x))(hr:o.run lim ρ h=some (v,h1)):Done lim lim' o ρ' m h h' v h1:=by
 cases o with
 | mov x =>
  simp only[AOp.run,Option.some.injEq,Prod.mk.injEq] at hr;obtain⟨rfl,rfl⟩:=hr;exact Done.pure (v':=ρ' x) H rfl (hρ x ho)
 | pick c a b =>
  simp only[okOp,Bool.and_eq_true] at ho;simp only[AOp.run] at hr;split at hr
  ·rename_i t e;cases hr;have hc:=hρ c ho.1.1;rw[e] at hc;refine Done.pure (v':=if t then ρ' a else ρ' b) H (by simp only[AOp.run,hc.bool']) ?_;cases t
   ·exact hρ b ho.2
   ·exact hρ a ho.1.2
  ·cases hr
 | bin op x y =>
  simp only[okOp,Bool.and_eq_true] at ho;simp only[AOp.run,Option.map_eq_some_iff,Prod.mk.injEq] at hr;obtain⟨u,hb,rfl,rfl⟩:=hr;obtain⟨q1,q2⟩:=abin_q (hρ x ho.1) (hρ y ho.2) hb;exact Done.pure H (by simp only[AOp.run,q1,Option.map_some]) q2
 | eqd neg agg ks x y =>
  simp only[okOp,Bool.and_eq_true] at ho;simp only[AOp.run,Option.map_eq_some_iff,Prod.mk.injEq] at hr;obtain⟨u,hb,rfl,rfl⟩:=hr;exact Done.pure H (by simp only[AOp.run,eqV_q (hρ x ho.1) (hρ y ho.2) hb,Option.map_some]) (.bool _)
 | isnil k neg x =>
  simp only[AOp.run,Option.map_eq_some_iff,Prod.mk.injEq] at hr;obtain⟨u,hb,rfl,rfl⟩:=hr;exact Done.pure H (by simp only[AOp.run,isNil_q (hρ x ho),hb,Option.map_some]) (.bool _)
 | un op x =>
  simp only[AOp.run,Option.map_eq_some_iff,Prod.mk.injEq] at hr;obtain⟨u,hb,rfl,rfl⟩:=hr;obtain⟨q1,q2⟩:=aun_q (hρ x ho) hb;exact Done.pure H (by simp only[AOp.run,q1,Option.map_some]) q2
 | box x =>
  simp only[AOp.run,Option.some.injEq,Prod.mk.injEq] at hr;obtain⟨rfl,rfl⟩:=hr;exact Done.alloc (u:=fun b=>.pointer (some ⟨b,0,none⟩)) H rfl (fun m' hs=>.cells true ((hρ x ho).mono hs).cells) (fun m' b b' e=>.ptr e)
 | zero cs =>
  simp only[AOp.run,Option.some.injEq,Prod.mk.injEq] at hr;obtain⟨rfl,rfl⟩:=hr;exact Done.alloc (u:=fun b=>.pointer (some ⟨b,0,none⟩)) H rfl (fun m' hs=>.cells true (LR.flatQ ho)) (fun m' b b' e=>.ptr e)
 | build z ps =>
  simp only[okOp,Bool.and_eq_true] at ho;simp only[AOp.run,Option.map_eq_some_iff,Prod.mk.injEq] at hr;obtain⟨u,hb,rfl,rfl⟩:=hr;obtain⟨cs',q1,q2⟩:=fillL_q hρ ho.2 (LR.flatQ ho.1) hb;exact Done.pure H (by simp only[AOp.run,q1,Option.map_some]) q2.aggL
 | bsl es z ps len =>
  simp only[okOp,Bool.and_eq_true] at ho;simp only[AOp.run,Option.map_eq_some_iff,Prod.mk.injEq] at hr;obtain⟨u,hb,rfl,rfl⟩:=hr;obtain⟨cs',q1,q2⟩:=fillL_q hρ ho.2 (LR.flatQ ho.1) hb;exact Done.alloc (u:=fun b=>.slice (some ⟨b,0,none⟩) len es) (k':=.cells true cs') H (by simp only[AOp.run,q1,Option.map_some]) (fun m' hs=>.cells true (q2.mono hs)) (fun m' b b' e=>.sl e)
 | ld a =>
  simp only[AOp.run] at hr;split at hr
  ·rename_i b o e;have ha:=hρ a ho;rw[e] at ha;obtain⟨b',eb,ea⟩:=ha.ptr';simp only[Option.map_eq_some_iff,Prod.mk.injEq] at hr;obtain⟨u,hb,rfl,rfl⟩:=hr;obtain⟨v',q1,q2⟩:=rdC_q H eb hb;exact Done.pure H (by simp only[AOp.run,ea,q1,Option.map_some]) q2
  ·cases hr
 | ldn n a =>
  simp only[AOp.run] at hr;split at hr
  ·rename_i b o e;have ha:=hρ a ho;rw[e] at ha;obtain⟨b',eb,ea⟩:=ha.ptr';simp only[Option.map_eq_some_iff,Prod.mk.injEq] at hr;obtain⟨u,hb,rfl,rfl⟩:=hr;obtain⟨v',q1,q2⟩:=rdN_q H eb hb;exact Done.pure H (by simp only[AOp.run,ea,q1,Option.map_some]) q2.aggL
  ·cases hr
 | st n a x =>
  simp only[okOp,Bool.and_eq_true] at ho;simp only[AOp.run] at hr;split at hr
  ·rename_i b o e;have ha:=hρ a ho.1;rw[e] at ha;obtain⟨b',eb,ea⟩:=ha.ptr';split at hr
   ·rename_i hn;simp only[Option.map_eq_some_iff,Prod.mk.injEq] at hr;obtain⟨u,hb,rfl,rfl⟩:=hr;have hx:=(hρ x ho.2).cells;obtain⟨h1',q1,q2,q3⟩:=wrN_q H hL eb hx hb;exact⟨_,h1',m,by simp only[AOp.run,ea]; rw[if_pos (by rw[<- hx.1]; exact hn),q1]; rfl,VR.undef,q2,q3⟩
   ·cases hr
  ·cases hr
 | nilc x =>
  simp only[AOp.run] at hr;have hx:=hρ x ho;split at hr
  ·rename_i a e;rw[e] at hx;cases hr;obtain⟨b,o,b',rfl,eb,ea⟩:=hx.ptrA;exact Done.pure H (by simp only[AOp.run,ea]) (.ptr eb)
  ·rename_i g f c e;rw[e] at hx;cases hr;obtain⟨a',b',ea,_,_⟩:=hx.fn';exact Done.pure H (by simp only[AOp.run,ea]) (ea▸hx)
  ·cases hr
 | off k x =>
  simp only[AOp.run] at hr;split at hr
  ·rename_i b o e;have hx:=hρ x ho;rw[e] at hx;cases hr;obtain⟨b',eb,ea⟩:=hx.ptr';exact Done.pure H (by simp only[AOp.run,ea]) (.ptr eb)
  ·cases hr
 | ixA len es x i =>
  simp only[okOp,Bool.and_eq_true] at ho;simp only[AOp.run] at hr;split at hr
  ·rename_i b o k n e1 e2;have hx:=hρ x ho.1;have hi:=hρ i ho.2;rw[e1] at hx; rw[e2] at hi;obtain⟨b',eb,ea⟩:=hx.ptr';split at hr
   ·rename_i hc;cases hr;exact Done.pure H (by simp only[AOp.run,ea,hi.int',if_pos hc]) (.ptr eb)
   ·cases hr
  ·cases hr
 | ixS es x i =>
  simp only[okOp,Bool.and_eq_true] at ho;simp only[AOp.run] at hr;split at hr
  ·rename_i b o len e k n e1 e2;have hx:=hρ x ho.1;have hi:=hρ i ho.2;rw[e1] at hx; rw[e2] at hi;obtain⟨b',eb,ea⟩:=hx.sl';split at hr
   ·rename_i hc;cases hr;exact Done.pure H (by simp only[AOp.run,ea,hi.int',if_pos hc]) (.ptr eb)
   ·cases hr
  ·cases hr
 | chS x i =>
  simp only[okOp,Bool.and_eq_true] at ho;simp only[AOp.run] at hr;split at hr
  ·rename_i s k n e1 e2;have hx:=hρ x ho.1;have hi:=hρ i ho.2;rw[e1] at hx; rw[e2] at hi;split at hr
   ·rename_i hc;simp only[Option.map_eq_some_iff,Prod.mk.injEq] at hr;obtain⟨u,hb,rfl,rfl⟩:=hr;exact Done.pure H (by simp only[AOp.run,hx.str',hi.int',if_pos hc,hb,Option.map_some]) (.int _ _)
   ·cases hr
  ·cases hr
 | el len es agg x i =>
  simp only[okOp,Bool.and_eq_true] at ho;simp only[AOp.run] at hr;split at hr
  ·rename_i cs k n e1 e2;have hx:=hρ x ho.1;have hi:=hρ i ho.2;rw[e1] at hx; rw[e2] at hi;obtain⟨ys,ea,hl⟩:=hx.agg';split at hr
   ·rename_i hc;split at hr
    ·rename_i hg;cases hr;exact Done.pure H (by simp only[AOp.run,ea,hi.int',if_pos hc,hg,if_true]) (ext_q hl _ _)
    ·rename_i hg;simp only[Option.map_eq_some_iff,Prod.mk.injEq] at hr;obtain⟨u,hb,rfl,rfl⟩:=hr;obtain⟨v',q1,q2⟩:=getD_ext hl hb;exact Done.pure H (by simp only[AOp.run,ea,hi.int',if_pos hc,if_neg hg,q1,Option.map_some]) q2
   ·cases hr
  ·cases hr
 | fld o n agg x =>
  simp only[AOp.run] at hr;split at hr
  ·rename_i cs e1;have hx:=hρ x ho;rw[e1] at hx;obtain⟨ys,ea,hl⟩:=hx.agg';split at hr
   ·rename_i hg;cases hr;exact Done.pure H (by simp only[AOp.run,ea,hg,if_true]) (ext_q hl _ _)
   ·rename_i hg;simp only[Option.map_eq_some_iff,Prod.mk.injEq] at hr;obtain⟨u,hb,rfl,rfl⟩:=hr;obtain⟨v',q1,q2⟩:=getD_ext hl hb;exact Done.pure H (by simp only[AOp.run,ea,if_neg hg,q1,Option.map_some]) q2
  ·cases hr
 | cutT x lo hi =>
  simp only[okOp,Bool.and_eq_true] at ho;simp only[AOp.run] at hr;split at hr
  ·rename_i s e;have hx:=hρ x ho.1.1;rw[e] at hx;simp only[Option.map_eq_some_iff,Prod.mk.injEq] at hr;obtain⟨⟨l,r⟩,hb,rfl,rfl⟩:=hr;exact Done.pure H (by simp only[AOp.run,hx.str',bound_q (OR.of hρ ho.1.2) (OR.of hρ ho.2) hb,Option.map_some]) (.str _)
  ·cases hr
 | cutS es x lo hi =>
  simp only[okOp,Bool.and_eq_true] at ho;have hx:=hρ x ho.1.1;simp only[AOp.run] at hr;split at hr
  ·rename_i e;rw[e] at hx;simp only[Option.map_eq_some_iff,Prod.mk.injEq] at hr;obtain⟨⟨l,r⟩,hb,rfl,rfl⟩:=hr;exact Done.pure H (by simp only[AOp.run,hx.snil',bound_q (OR.of hρ ho.1.2) (OR.of hρ ho.2) hb,Option.map_some]) (.snil _ _)
  ·rename_i b o len e e1;rw[e1] at hx;obtain⟨b',eb,ea⟩:=hx.sl';split at hr
   ·rename_i he;simp only[Option.map_eq_some_iff,Prod.mk.injEq] at hr;obtain⟨⟨l,r⟩,hb,rfl,rfl⟩:=hr;exact Done.pure H (by simp only[AOp.run,ea,if_pos he,bound_q (OR.of hρ ho.1.2) (OR.of hρ ho.2) hb,Option.map_some]) (.sl eb)
   ·cases hr
  ·cases hr
 | cutA len es x lo hi =>
  simp only[okOp,Bool.and_eq_true] at ho;have hx:=hρ x ho.1.1;simp only[AOp.run] at hr;split at hr
  ·rename_i b o e1;rw[e1] at hx;obtain⟨b',eb,ea⟩:=hx.ptr';obtain⟨k,k',f1,f2,f3⟩:=H.blk b b' eb;rw[f1] at hr;cases f3 with
   | cells own hc =>
    simp only at hr;split at hr
    ·rename_i he;simp only[Option.map_eq_some_iff,Prod.mk.injEq] at hr;obtain⟨⟨l,r⟩,hb,rfl,rfl⟩:=hr;refine Done.pure H (v':=.slice (some ⟨b',o+l*es,none⟩) (r-l) es) ?_ (.sl eb);simp only[AOp.run,ea,f2];rw[if_pos (by rw[<- hc.1]; exact he),bound_q (OR.of hρ ho.1.2) (OR.of hρ ho.2) hb];rfl
    ·cases hr
   | _=>simp at hr
  ·cases hr
 | i2i k x =>
  simp only[AOp.run] at hr;split at hr
  ·rename_i k0 n e;have hx:=hρ x ho;rw[e] at hx;cases hr;exact Done.pure H (by simp only[AOp.run,hx.int']) (.int _ _)
  ·cases hr
 | i2s x =>
  simp only[AOp.run] at hr;split at hr
  ·rename_i k0 n e;have hx:=hρ x ho;rw[e] at hx;cases hr;exact Done.pure H (by simp only[AOp.run,hx.int']) (.str _)
  ·cases hr
 | s2b x =>
  simp only[AOp.run] at hr;split at hr
  ·rename_i s e;have hx:=hρ x ho;rw[e] at hx;cases hr
   exact Done.alloc (u:=fun b=>.slice (some ⟨b,0,none⟩) s.size 1) H (by simp only[AOp.run,hx.str']) (fun m' hs=>.cells true (LR.flatQ (by
    simp only[List.all_eq_true,List.mem_map];rintro _ ⟨b,_,rfl⟩;rfl))) (fun m' b b' e=>.sl e)
  ·cases hr
 | b2s x =>
  have hx:=hρ x ho;simp only[AOp.run] at hr;split at hr
  ·rename_i e;rw[e] at hx;cases hr;exact Done.pure H (by simp only[AOp.run,hx.snil']) (.str _)
  ·rename_i b o n e;rw[e] at hx;obtain⟨b',eb,ea⟩:=hx.sl';simp only[Option.map_eq_some_iff,Prod.mk.injEq,Option.bind_eq_some_iff] at hr;obtain⟨l,⟨l0,hl0,hl1⟩,rfl,rfl⟩:=hr;obtain⟨l',q1,q2⟩:=rdN_q H eb hl0;exact Done.pure H (by simp only[AOp.run,ea,q1,Option.bind_some,bytesOf_q q2 hl1,Option.map_some]) (.str _)
  ·cases hr
 | ifc t x =>
  simp only[AOp.run,Option.some.injEq,Prod.mk.injEq] at hr;obtain⟨rfl,rfl⟩:=hr;exact Done.pure H rfl (.iface t (hρ x ho))
 | fn f a b =>
  simp only[okOp,Bool.and_eq_true] at ho;simp only[AOp.run,Option.some.injEq,Prod.mk.injEq] at hr;obtain⟨rfl,rfl⟩:=hr;have h1:LR m (a.map ρ).toArray.toList (a.map ρ').toArray.toList:=by simpa using maps_q hρ ho.1
  have h2:LR m (b.map ρ).toArray.toList (b.map ρ').toArray.toList:=by simpa using maps_q hρ ho.2
  exact Done.pure H rfl (.fn f (LR.arr.1 h1).1 (LR.arr.1 h2).1 (LR.arr.1 h1).2 (LR.arr.1 h2).2)
 | mkS es bytes z l c =>
  simp only[okOp,Bool.and_eq_true] at ho;simp only[AOp.run] at hr;split at hr
  ·rename_i l0 c0 e1 e2;have hl:=hρ l ho.1.2;have hc:=hρ c ho.2;rw[e1] at hl; rw[e2] at hc;split at hr
   ·rename_i hq;cases hr;exact Done.alloc (u:=fun b=>.slice (some ⟨b,0,none⟩) l0.toNat es) H (by simp only[AOp.run,hl.int',hc.int',if_pos hq]) (fun m' hs=>.cells true (repl_q ho.1.1)) (fun m' b b' e=>.sl e)
   ·cases hr
  ·cases hr
 | mkM =>
  simp only[AOp.run,Option.some.injEq,Prod.mk.injEq] at hr;obtain⟨rfl,rfl⟩:=hr;exact Done.alloc (u:=fun b=>.map (some b)) H rfl (fun m' hs=>.map .nil) (fun m' b b' e=>.map e)
 | mput s x k w =>
  simp only[okOp,Bool.and_eq_true] at ho;have hx:=hρ x ho.1.1;have hk:=hρ k ho.1.2;have hw:=hρ w ho.2;simp only[AOp.run] at hr;split at hr
  ·rename_i b e;rw[e] at hx;obtain⟨b',eb,ea⟩:=hx.map';obtain⟨q,q',f1,f2,f3⟩:=H.blk b b' eb;rw[f1] at hr;cases f3 with
   | map he =>
    simp only at hr;split at hr
    ·rename_i hc
     have hc':lim'<=b'\/flatA (ρ' w)=true:=by
      rcases hc with hc | hc
      ·exact Or.inl (hL.1 b b' eb hc)
      ·exact Or.inr (by rw[hw.flatA_eq]; exact hc)
     have lw:b<lim->∀m0,VR m0 (ρ w) (ρ' w):=fun hb m0=>by
      rcases hc with hc | hc
      ·omega
      ·exact hw.flatA hc
     split at hr
     ·rename_i i u em;cases hr;obtain⟨u',em',_⟩:=(mfind_q hk he).2 _ _ em;refine⟨undef,_,m,by simp only[AOp.run,ea,f2,if_pos hc',em'],VR.undef,setB H eb (.map (he.set hk hw i)) fun hb m0 hs qq=>?_⟩;obtain⟨k1,k1',g1,g2,g3⟩:=qq;rw[f1] at g1; rw[f2] at g2; cases g1; cases g2;cases g3 with
      | map he0=>exact .map (he0.set (hk.flat1 (mfind_key em)) (lw hb m0) i)
     ·rename_i em;cases hr;have em':=(mfind_q hk he).1 em;refine⟨undef,_,m,by simp only[AOp.run,ea,f2,if_pos hc',em'],VR.undef,setB H eb (.map (he.push hk hw)) fun hb m0 hs qq=>?_⟩;obtain⟨k1,k1',g1,g2,g3⟩:=qq;rw[f1] at g1; rw[f2] at g2; cases g1; cases g2;cases g3 with
      | map he0=>exact .map (he0.push (hk.flat1 (mfind_key em)) (lw hb m0))
     ·cases hr
    ·cases hr
   | _=>simp at hr
  ·cases hr
 | mget s z agg ok x k =>
  simp only[okOp,Bool.and_eq_true] at ho;have hx:=hρ x ho.1.2;have hk:=hρ k ho.2;simp only[AOp.run] at hr;split at hr
  ·rename_i es em;obtain⟨es',em',he⟩:=mapOf_q H hx em;split at hr
   ·rename_i i u ef;cases hr;obtain⟨u',ef',hu⟩:=(mfind_q hk he).2 _ _ ef;refine Done.pure (v':=if ok then .tuple #[u',.bool true] else u') H (by simp only[AOp.run,em',ef']) ?_;cases ok
    ·exact hu
    ·exact LR.tupL (.cons hu (.cons (.bool true) .nil))
   ·rename_i ef;cases hr;refine Done.pure (v':=if ok then .tuple #[zeroVal agg z,.bool false] else zeroVal agg z) H (by simp only[AOp.run,em',(mfind_q hk he).1 ef]) ?_;cases ok
    ·exact zeroVal_q ho.1.1
    ·exact LR.tupL (.cons (zeroVal_q ho.1.1) (.cons (.bool false) .nil))
   ·cases hr
  ·cases hr
 | ext t i =>
  simp only[AOp.run] at hr;split at hr
  ·rename_i vs e;have ht:=hρ t ho;rw[e] at ht;obtain⟨ys,ea,hl⟩:=ht.tup';simp only[Option.map_eq_some_iff,Prod.mk.injEq] at hr;obtain⟨u,hb,rfl,rfl⟩:=hr;obtain⟨v',q1,q2⟩:=getD_ext hl hb;exact Done.pure H (by simp only[AOp.run,ea,q1,Option.map_some]) q2
  ·cases hr
 | arrP len x =>
  simp only[AOp.run] at hr;split at hr
  ·rename_i a n e0 e;have hx:=hρ x ho;rw[e] at hx;obtain⟨b,o,b',rfl,eb,ea⟩:=hx.slA;split at hr
   ·rename_i hc;cases hr;exact Done.pure H (by simp only[AOp.run,ea,if_pos hc]) (.ptr eb)
   ·cases hr
  ·cases hr
 | lnT x =>
  simp only[AOp.run] at hr;split at hr
  ·rename_i s e;have hx:=hρ x ho;rw[e] at hx;cases hr;exact Done.pure H (by simp only[AOp.run,hx.str']) (.int _ _)
  ·cases hr
 | lnS x =>
  simp only[AOp.run] at hr;split at hr
  ·rename_i a n e0 e;have hx:=hρ x ho;rw[e] at hx;cases hr;cases a with
   | none=>exact Done.pure H (by simp only[AOp.run,hx.snil']) (.int _ _)
   | some a =>
    obtain⟨b,o,b',rfl,eb,ea⟩:=hx.slA;exact Done.pure H (by simp only[AOp.run,ea]) (.int _ _)
  ·cases hr
 | s2s x =>
  simp only[AOp.run] at hr;split at hr
  ·rename_i s e;have hx:=hρ x ho;rw[e] at hx;cases hr;exact Done.pure H (by simp only[AOp.run,hx.str']) (.str _)
  ·cases hr
 | lnA n =>
  simp only[AOp.run,Option.some.injEq,Prod.mk.injEq] at hr;obtain⟨rfl,rfl⟩:=hr;exact Done.pure H rfl (.int _ _)
 | lnM x =>
  simp only[AOp.run] at hr;have hx:=hρ x ho;split at hr
  ·rename_i e;rw[e] at hx;cases hr;exact Done.pure H (by simp only[AOp.run,hx.mnil']) (.int _ _)
  ·rename_i b e;rw[e] at hx;obtain⟨b',eb,ea⟩:=hx.map';obtain⟨q,q',f1,f2,f3⟩:=H.blk b b' eb;rw[f1] at hr;cases f3 with
   | map he =>
    simp only at hr;cases hr;exact Done.pure H (by simp only[AOp.run,ea,f2,he.length]) (.int _ _)
   | _=>simp at hr
  ·cases hr
 | mnV xs =>
  have hl:=maps_q hρ ho;simp only[AOp.run] at hr;split at hr
  ·rename_i x l e;rw[e] at hl;obtain⟨x',l',e',hx,hl'⟩:=hl.cases_cons;split at hr
   ·rename_i hm;simp only[Option.map_eq_some_iff,Prod.mk.injEq] at hr;obtain⟨u,hb,rfl,rfl⟩:=hr;obtain⟨q1,q2⟩:=foldV_q mn2_int hx hl' hb hm
    have hm':mini x'=true:=by
     unfold mini at hm;split at hm
     ·rw[hx.int']; rfl
     ·cases hm
    exact Done.pure H (by simp only[AOp.run,e',if_pos hm',q1,Option.map_some]) q2
   ·cases hr
  ·cases hr
 | mxV xs =>
  have hl:=maps_q hρ ho;simp only[AOp.run] at hr;split at hr
  ·rename_i x l e;rw[e] at hl;obtain⟨x',l',e',hx,hl'⟩:=hl.cases_cons;split at hr
   ·rename_i hm;simp only[Option.map_eq_some_iff,Prod.mk.injEq] at hr;obtain⟨u,hb,rfl,rfl⟩:=hr;obtain⟨q1,q2⟩:=foldV_q mx2_int hx hl' hb hm
    have hm':mini x'=true:=by
     unfold mini at hm;split at hm
     ·rw[hx.int']; rfl
     ·cases hm
    exact Done.pure H (by simp only[AOp.run,e',if_pos hm',q1,Option.map_some]) q2
   ·cases hr
  ·cases hr
 | app es bytes s x =>
  simp only[okOp,Bool.and_eq_true] at ho;have hs:=hρ s ho.1;have hx:=hρ x ho.2;simp only[AOp.run] at hr;split at hr
  ·rename_i n new esrc;obtain⟨new',esrc',hn⟩:=srcOf_q H hx esrc;have hsi:new'.all single=new.all single:=LR.all_eq (fun _ _=>VR.single) hn;split at hr
   ·rename_i hz;split at hr
    ·rename_i e;rw[e] at hs;cases hr;exact Done.pure H (by simp only[AOp.run,esrc',if_pos hz,hs.snil']) (.snil _ _)
    ·rename_i a l e0 e;rw[e] at hs;cases hr;obtain⟨b,o,b',rfl,eb,ea⟩:=hs.slA;exact Done.pure H (by simp only[AOp.run,esrc',if_pos hz,ea]) (.sl eb)
    ·cases hr
   ·rename_i hz;split at hr
    ·rename_i hsg;have hsg':new'.all single=true:=hsi.trans hsg;split at hr
     ·rename_i e;rw[e] at hs;split at hr
      ·rename_i hb;cases hr;exact Done.alloc (u:=fun b=>.slice (some ⟨b,0,none⟩) n es) (k':=.cells true new') H (by simp only[AOp.run,esrc',if_neg hz,if_pos hsg',hs.snil',if_pos hb]) (fun m' hs=>.cells true (hn.mono hs)) (fun m' b b' e=>.sl e)
      ·cases hr
     ·rename_i b o l e0 e;rw[e] at hs;obtain⟨b',eb,ea⟩:=hs.sl';obtain⟨q,q',f1,f2,f3⟩:=H.blk b b' eb;rw[f1] at hr;cases f3 with
      | cells own hc =>
       cases own with
       | false=>simp at hr
       | true =>
        simp only at hr;split at hr
        ·rename_i hq;cases hr;obtain⟨s1,s2⟩:=setB (lim:=lim) H eb .dead fun _ _ _ _=>.dead;rename_i cs cs'
         have hsub:Sub m (ins m (h.set b .dead).length (h'.set b' .dead).length):=by
          intro c c' ec;have:=(s1.lt ec).1;simp only[ins];rw[if_neg (by omega)];exact ec
         obtain⟨a1,a2,a3⟩:=alloc (lim:=lim) s1 (k:=.cells true (cs.drop o++new)) (k':=.cells true (cs'.drop o++new')) (.cells true (((hc.mono hsub).drop o).append (hn.mono hsub)));refine⟨.slice (some ⟨h'.length,0,none⟩) (l+n) es,_,_,?_,?_,a1,s2.trans a2⟩
         ·simp only[AOp.run,esrc',if_neg hz,if_pos hsg',ea,f2];rw[if_pos (by rw[<- hc.1]; exact hq)]
         ·refine .sl ?_;simpa using a3
        ·rename_i hq0;split at hr
         ·rename_i hq;cases hr;obtain⟨s1,s2⟩:=setB (lim:=lim) H eb .dead fun _ _ _ _=>.dead;rename_i cs cs'
          have hsub:Sub m (ins m (h.set b .dead).length (h'.set b' .dead).length):=by
           intro c c' ec;have:=(s1.lt ec).1;simp only[ins];rw[if_neg (by omega)];exact ec
          obtain⟨a1,a2,a3⟩:=alloc (lim:=lim) s1 (k:=.cells true ((cs.drop o).take (l*es)++new)) (k':=.cells true ((cs'.drop o).take (l*es)++new')) (.cells true ((((hc.mono hsub).drop o).take (l*es)).append (hn.mono hsub)));refine⟨.slice (some ⟨h'.length,0,none⟩) (l+n) es,_,_,?_,?_,a1,s2.trans a2⟩
          ·simp only[AOp.run,esrc',if_neg hz,if_pos hsg',ea,f2];rw[if_neg (by rw[<- hc.1]; exact hq0),if_pos (by rw[<- hc.1]; exact hq)]
          ·refine .sl ?_;simpa using a3
         ·cases hr
      | _=>simp at hr
     ·cases hr
    ·cases hr
  ·cases hr
 | copy es d x =>
  simp only[okOp,Bool.and_eq_true] at ho;have hd:=hρ d ho.1;have hx:=hρ x ho.2;simp only[AOp.run] at hr;split at hr
  ·rename_i e;rw[e] at hd;simp only[Option.map_eq_some_iff,Prod.mk.injEq] at hr;obtain⟨⟨n,l⟩,hb,rfl,rfl⟩:=hr;obtain⟨l',q1,q2⟩:=srcOf_q H hx hb;exact Done.pure H (by simp only[AOp.run,hd.snil',q1,Option.map_some]) (.int _ _)
  ·rename_i b o l e0 e;rw[e] at hd;obtain⟨b',eb,ea⟩:=hd.sl';split at hr
   ·rename_i n new esrc;obtain⟨new',esrc',hn⟩:=srcOf_q H hx esrc;split at hr
    ·rename_i he;simp only[Option.map_eq_some_iff,Prod.mk.injEq] at hr;obtain⟨u,hb,rfl,rfl⟩:=hr;obtain⟨h1',q1,q2,q3⟩:=wrN_q H hL eb (hn.take _) hb;exact⟨_,h1',m,by simp only[AOp.run,ea,esrc',if_pos he,q1,Option.map_some],.int _ _,q2,q3⟩
    ·cases hr
   ·cases hr
  ·cases hr
 | clrS es z x =>
  simp only[okOp,Bool.and_eq_true] at ho;have hx:=hρ x ho.2;simp only[AOp.run] at hr;split at hr
  ·rename_i e;rw[e] at hx;cases hr;exact Done.pure (v':=.tuple #[]) H (by simp only[AOp.run,hx.snil']) VR.undef
  ·rename_i b o l e0 e;rw[e] at hx;obtain⟨b',eb,ea⟩:=hx.sl';split at hr
   ·rename_i he;simp only[Option.map_eq_some_iff,Prod.mk.injEq] at hr;obtain⟨u,hb,rfl,rfl⟩:=hr;obtain⟨h1',q1,q2,q3⟩:=wrN_q H hL eb (repl_q ho.1) hb;exact⟨_,h1',m,by simp only[AOp.run,ea,if_pos he,q1,Option.map_some]; rfl,VR.undef,q2,q3⟩
   ·cases hr
  ·cases hr
 | rng x =>
  simp only[AOp.run] at hr;split at hr
  ·rename_i s e;have hx:=hρ x ho;rw[e] at hx;cases hr;exact Done.alloc (u:=fun b=>.pointer (some ⟨b,0,none⟩)) H (by simp only[AOp.run,hx.str']) (fun m' hs=>.iter s 0) (fun m' b b' e=>.ptr e)
  ·cases hr
 | nxt x =>
  have hx:=hρ x ho;simp only[AOp.run] at hr;split at hr
  ·rename_i b e;rw[e] at hx;obtain⟨b',eb,ea⟩:=hx.ptr';obtain⟨q,q',f1,f2,f3⟩:=H.blk b b' eb;rw[f1] at hr;cases f3 with
   | iter s pos =>
    simp only at hr;split at hr
    ·rename_i hq;cases hr;exact⟨_,_,m,by simp only[AOp.run,ea,f2,if_pos hq],LR.tupL (.cons (.bool _) (.cons (.int _ _) (.cons (.int _ _) .nil))),setB H eb (.iter s _) fun _ _ _ _=>.iter s _⟩
    ·rename_i hq;cases hr;exact Done.pure H (by simp only[AOp.run,ea,f2,if_neg hq]) (LR.tupL (.cons (.bool _) .nil))
   | _=>simp at hr
  ·cases hr
 | call f args=>cases hr
end Go.Ab.Q
namespace Go.Ab.Q
variable {lim lim':Nat}{m:Mq}{h h' h1:Hp}{v:Value}
theorem rd_q {f f':Fr}(hf:LR m f f')(t:Nat):VR m (f.rd t) (f'.rd t):=by
 by_cases ht:t<f.length
 ·exact hf.2 t ht
 ·have h2:¬ t<f'.length:=hf.1▸ht;simp only[Fr.rd,List.getD_eq_getElem?_getD,List.getElem?_eq_none (Nat.le_of_not_lt ht),List.getElem?_eq_none (Nat.le_of_not_lt h2)];exact VR.undef
theorem st_q {f f':Fr}(hf:LR m f f'){t:Nat}{v v':Value}(hv:VR m v v'):LR m (f.st t v) (f'.st t v'):=by
 induction t generalizing f f' with
 | zero =>
  cases f with
  | nil=>rw[hf.cases_nil]; exact .cons hv .nil
  | cons x f =>
   obtain⟨y,f',rfl,h1,h2⟩:=hf.cases_cons;exact .cons hv h2
 | succ t ih =>
  cases f with
  | nil=>rw[hf.cases_nil]; exact .cons VR.undef (ih .nil)
  | cons x f =>
   obtain⟨y,f',rfl,h1,h2⟩:=hf.cases_cons;exact .cons h1 (ih h2)
theorem ev_q {f f':Fr}(hf:LR m f f'){x:Operand}(hx:okX x=true):VR m (f.ev x) (f'.ev x):=by
 cases x with
 | tmp t=>exact rd_q hf t
 | const v=>exact VR.constQ hx
 | global g=>cases hx
 | func g=>exact .fn g rfl rfl (fun i hi=>by simp at hi) (fun i hi=>by simp at hi)
inductive TR (m:Mq):Fn->Fn->Prop
 | func (g:FuncId):TR m (.func g) (.func g)
 | yl {l l':Nat} (e:m l=some l'):TR m (.yield l) (.yield l')
def CallQ (c c':CallT)(lim lim':Nat):Prop:=∀t t' args args' h h' m v h1,TR m t t'->LR m args args'->HR m h h'->LimM lim lim' m h'->c t args h=some (v,h1) ->
 ∃v' h1' m1,c' t' args' h'=some (v',h1')/\VR m1 v v'/\HR m1 h1 h1'/\Step lim m h h' m1 h1 h1'
variable {call call':CallT}
theorem go_q (hc:CallQ call call' lim lim'){ρ ρ':Operand->Value}{o:AOp}(ho:okOp o=true)(H:HR m h h')(hL:LimM lim lim' m h')(hρ:∀x,okX x=true->VR m (ρ x) (ρ' x))(hr:o.go call lim ρ h=some (v,h1)) :
  ∃v' h1' m1,o.go call' lim' ρ' h'=some (v',h1')/\VR m1 v v'/\HR m1 h1 h1'/\Step lim m h h' m1 h1 h1':=by
 cases o
 case call p args =>
  simp only[okOp,Bool.and_eq_true] at ho;have hp:=hρ p ho.1;have ha:=maps_q hρ ho.2;simp only[AOp.go] at hr ⊢;split at hr
  ·rename_i g a b e;rw[e] at hp;obtain⟨a',b',e',h2,h3⟩:=hp.fn';rw[e'];exact hc _ _ _ _ _ _ _ _ _ (.func g) ((h2.append ha).append h3) H hL hr
  ·rename_i l a b e;rw[e] at hp;obtain⟨l',el,rfl,rfl,e'⟩:=hp.yl';rw[e'];simp only[Array.size_empty,and_self,if_true] at hr ⊢;exact hc _ _ _ _ _ _ _ _ _ (.yl el) ha H hL hr
  ·cases hr
 all_goals exact run_q ho H hL hρ hr
theorem goes_q {f f':Fr}(hf:LR m f f')(g:Option (Nat×Bool)):goes f' g=goes f g:=by
 cases g with
 | none=>rfl
 | some p =>
  obtain⟨t,b⟩:=p;have:=rd_q hf t;generalize e:f.rd t=x at this;generalize e':f'.rd t=x' at this;simp only[goes,e,e'];cases this<;>rfl
theorem put_q {f f':Fr}(hf:LR m f f'){d:Option Nat}{v v':Value}(hv:VR m v v'):LR m (put f d v) (put f' d v'):=by
 cases d with
 | none=>exact hf
 | some d=>exact st_q hf hv
theorem sure1_q {x y x' y':Value}(hx:VR m x x')(hy:VR m y y')(hs:sure1 x y=true):sure1 x' y'=true:=by
 unfold sure1 at hs;split at hs
 ·rw[hx.bool',hy.bool']; exact hs
 ·rw[hx.int',hy.int']; exact hs
 ·rw[hx.str',hy.str']; exact hs
 ·simp only[beq_iff_eq] at hs;subst hs;cases hx with
  | pnil=>rw[hy.pnil']; simp[sure1]
  | ptr e1=>cases hy with | ptr e2=>rw[e1] at e2; cases e2; simp[sure1]
 ·simp only[Bool.and_eq_true,beq_iff_eq] at hs;obtain⟨⟨rfl,rfl⟩,rfl⟩:=hs;cases hx with
  | snil=>rw[hy.snil']; simp[sure1]
  | sl e1=>cases hy with | sl e2=>rw[e1] at e2; cases e2; simp[sure1]
 ·simp only[beq_iff_eq] at hs;subst hs;cases hx with
  | mnil=>rw[hy.mnil']; simp[sure1]
  | map e1=>cases hy with | map e2=>rw[e1] at e2; cases e2; simp[sure1]
 ·cases hx; cases hy; rfl
 ·cases hx; cases hy; rfl
 ·simp only[Bool.and_eq_true,beq_iff_eq] at hs;obtain⟨⟨⟨⟨rfl,s1⟩,s2⟩,s3⟩,s4⟩:=hs;cases hx with
  | fn f na nb ha hb=>cases hy with | fn _ nc nd hc hd=>simp[sure1,<- na,<- nb,<- nc,<- nd,s1,s2,s3,s4]
  | yl e1=>cases hy with | yl e2=>rw[e1] at e2; cases e2; simp[sure1]
 ·cases hs
theorem sureL_q:∀ {x y x' y':List Value},LR m x x'->LR m y y'->sureL x y=true->sureL x' y'=true:=by
 intro x
 induction x with
 | nil =>
  intro y x' y' hx hy hs;cases y with
  | nil=>rw[hx.cases_nil,hy.cases_nil]; rfl
  | cons _ _=>simp[sureL] at hs
 | cons a x ih =>
  intro y x' y' hx hy hs;cases y with
  | nil=>simp[sureL] at hs
  | cons b y =>
   obtain⟨a',x',rfl,h1,h2⟩:=hx.cases_cons;obtain⟨b',y',rfl,h3,h4⟩:=hy.cases_cons;simp only[sureL,Bool.and_eq_true] at hs ⊢;exact⟨sure1_q h1 h3 hs.1,ih h2 h4 hs.2⟩
theorem sure_q {x y x' y':Value}(hx:VR m x x')(hy:VR m y y')(hs:sure x y=true):sure x' y'=true:=by
 unfold sure at hs;split at hs
 ·obtain⟨a,rfl,h1⟩:=hx.agg';obtain⟨b,rfl,h2⟩:=hy.agg';exact sureL_q h1 h2 hs
 ·have:=sure1_q hx hy hs;unfold sure;split
  ·simp[sure1] at this
  ·exact this
theorem ai_q (hc:CallQ call call' lim lim'){i:AI}(ho:okI i=true)(H:HR m h h')(hL:LimM lim lim' m h'){f f' f1:Fr}(hf:LR m f f')(hr:i.run call lim f h=some (f1,h1)) :
  ∃f1' h1' m1,i.run call' lim' f' h'=some (f1',h1')/\LR m1 f1 f1'/\HR m1 h1 h1'/\Step lim m h h' m1 h1 h1':=by
 have hρ:∀x,okX x=true->VR m (f.ev x) (f'.ev x):=fun x hx=>ev_q hf hx;cases i with
 | op d g o =>
  simp only[AI.run] at hr ⊢;rw[goes_q hf];split at hr
  ·rename_i hg;rw[if_pos hg];simp only[Option.map_eq_some_iff,Prod.mk.injEq] at hr;obtain⟨⟨v,h2⟩,e,rfl,rfl⟩:=hr;obtain⟨v',h1',m1,q1,q2,q3,q4⟩:=go_q hc ho H hL hρ e;exact⟨_,h1',m1,by rw[q1]; rfl,put_q (hf.mono q4.ext) q2,q3,q4⟩
  ·rename_i hg;rw[if_neg hg];cases hr;exact⟨_,h',m,rfl,put_q hf VR.undef,H,Step.refl _ _ _ _⟩
 | chk d g o =>
  simp only[AI.run] at hr ⊢;rw[goes_q hf];split at hr
  ·rename_i hg;rw[if_pos hg];split at hr
   ·rename_i v h2 e;split at hr
    ·rename_i hs;cases hr;obtain⟨v',h1',m1,q1,q2,q3,q4⟩:=run_q ho H hL hρ e;refine⟨f',h',m,?_,hf,H,Step.refl _ _ _ _⟩;simp only[q1];rw[if_pos (sure_q ((rd_q hf d).mono q4.ext) q2 hs)]
    ·cases hr
   ·cases hr
  ·rename_i hg;rw[if_neg hg];cases hr;exact⟨f',h',m,rfl,hf,H,Step.refl _ _ _ _⟩
theorem runL_q (hc:CallQ call call' lim lim'):∀ {l:List AI} {m:Mq} {h h' h1:Hp} {f f' f1:Fr},l.all okI=true->HR m h h'->LimM lim lim' m h'->LR m f f'->runL call lim l f h=some (f1,h1) ->
  ∃f1' h1' m1,runL call' lim' l f' h'=some (f1',h1')/\LR m1 f1 f1'/\HR m1 h1 h1'/\Step lim m h h' m1 h1 h1':=by
 intro l
 induction l with
 | nil=>intro m h h' h1 f f' f1 _ H _ hf hr; cases hr; exact⟨f',h',m,rfl,hf,H,Step.refl _ _ _ _⟩
 | cons i l ih =>
  intro m h h' h1 f f' f1 ho H hL hf hr;simp only[List.all_cons,Bool.and_eq_true] at ho;simp only[runL] at hr ⊢;split at hr
  ·rename_i f2 h2 e;obtain⟨f2',h2',m2,q1,q2,q3,q4⟩:=ai_q hc ho.1 H hL hf e;obtain⟨f3',h3',m3,r1,r2,r3,r4⟩:=ih ho.2 q3 (hL.step q4) q2 hr;exact⟨f3',h3',m3,by rw[q1]; exact r1,r2,r3,q4.trans r4⟩
  ·cases hr
def CodeQ (s s':Fr->Hp->Option (AX×Fr×Hp))(lim lim':Nat):Prop:=∀m f f' h h' x f1 h1,HR m h h'->LimM lim lim' m h'->LR m f f'->s f h=some (x,f1,h1) ->
 ∃f1' h1' m1,s' f' h'=some (x,f1',h1')/\LR m1 f1 f1'/\HR m1 h1 h1'/\Step lim m h h' m1 h1 h1'
theorem lp_q {s s':Fr->Hp->Option (AX×Fr×Hp)}(hs:CodeQ s s' lim lim'):∀n,CodeQ (lp s n) (lp s' n) lim lim':=by
 intro n
 induction n with
 | zero=>intro m f f' h h' x f1 h1 _ _ _ hr; cases hr
 | succ n ih =>
  intro m f f' h h' x f1 h1 H hL hf hr;simp only[lp] at hr ⊢;split at hr
  ·rename_i f2 h2 e;obtain⟨f2',h2',m2,q1,q2,q3,q4⟩:=hs _ _ _ _ _ _ _ _ H hL hf e;obtain⟨f3',h3',m3,r1,r2,r3,r4⟩:=ih _ _ _ _ _ _ _ _ q3 (hL.step q4) q2 hr;exact⟨f3',h3',m3,by rw[q1]; exact r1,r2,r3,q4.trans r4⟩
  ·rename_i hne;obtain⟨f2',h2',m2,q1,q2,q3,q4⟩:=hs _ _ _ _ _ _ _ _ H hL hf hr;refine⟨f2',h2',m2,?_,q2,q3,q4⟩;rw[q1];cases x with
   | norm=>exact absurd hr (hne f1 h1)
   | exit i=>rfl
   | ret=>rfl
theorem evC_q (hc:CallQ call call' lim lim')(n:Nat):∀ {a:AC},okC a=true->CodeQ (evC call n lim a) (evC call' n lim' a) lim lim':=by
 intro a
 induction a with
 | skip=>intro _ m f f' h h' x f1 h1 H hL hf hr; cases hr; exact⟨f',h',m,rfl,hf,H,Step.refl _ _ _ _⟩
 | exit i=>intro _ m f f' h h' x f1 h1 H hL hf hr; cases hr; exact⟨f',h',m,rfl,hf,H,Step.refl _ _ _ _⟩
 | ret=>intro _ m f f' h h' x f1 h1 H hL hf hr; cases hr; exact⟨f',h',m,rfl,hf,H,Step.refl _ _ _ _⟩
 | bad=>intro _ m f f' h h' x f1 h1 H hL hf hr; cases hr
 | reg l =>
  intro ho m f f' h h' x f1 h1 H hL hf hr;simp only[evC,Option.map_eq_some_iff,Prod.mk.injEq] at hr ⊢;obtain⟨⟨f2,h2⟩,e,rfl,rfl,rfl⟩:=hr;obtain⟨f1',h1',m1,q1,q2⟩:=runL_q hc ho H hL hf e;exact⟨f1',h1',m1,⟨_,q1,rfl,rfl,rfl⟩,q2⟩
 | seq a b iha ihb =>
  intro ho m f f' h h' x f1 h1 H hL hf hr;simp only[okC,Bool.and_eq_true] at ho;simp only[evC] at hr ⊢;split at hr
  ·rename_i f2 h2 e;obtain⟨f2',h2',m2,q1,q2,q3,q4⟩:=iha ho.1 _ _ _ _ _ _ _ _ H hL hf e;obtain⟨f3',h3',m3,r1,r2,r3,r4⟩:=ihb ho.2 _ _ _ _ _ _ _ _ q3 (hL.step q4) q2 hr;exact⟨f3',h3',m3,by rw[q1]; exact r1,r2,r3,q4.trans r4⟩
  ·rename_i hne;obtain⟨f2',h2',m2,q1,q2,q3,q4⟩:=iha ho.1 _ _ _ _ _ _ _ _ H hL hf hr;refine⟨f2',h2',m2,?_,q2,q3,q4⟩;rw[q1];cases x with
   | norm=>exact absurd hr (hne f1 h1)
   | exit i=>rfl
   | ret=>rfl
 | cond o a b iha ihb =>
  intro ho m f f' h h' x f1 h1 H hL hf hr;simp only[okC,Bool.and_eq_true] at ho;simp only[evC] at hr ⊢;have hx:=ev_q hf ho.1.1;split at hr
  ·rename_i e; rw[e] at hx; rw[hx.bool']; exact iha ho.1.2 _ _ _ _ _ _ _ _ H hL hf hr
  ·rename_i e; rw[e] at hx; rw[hx.bool']; exact ihb ho.2 _ _ _ _ _ _ _ _ H hL hf hr
  ·cases hr
 | block id a ih =>
  intro ho m f f' h h' x f1 h1 H hL hf hr;simp only[evC] at hr ⊢;split at hr
  ·rename_i i f2 h2 e;obtain⟨f2',h2',m2,q1,q2,q3,q4⟩:=ih ho _ _ _ _ _ _ _ _ H hL hf e;rw[q1];split at hr
   ·rename_i hi; cases hr; exact⟨f2',h2',m2,by simp only[if_pos hi],q2,q3,q4⟩
   ·rename_i hi; cases hr; exact⟨f2',h2',m2,by simp only[if_neg hi],q2,q3,q4⟩
  ·rename_i hne;obtain⟨f2',h2',m2,q1,q2,q3,q4⟩:=ih ho _ _ _ _ _ _ _ _ H hL hf hr;refine⟨f2',h2',m2,?_,q2,q3,q4⟩;rw[q1];cases x with
   | norm=>rfl
   | exit i=>exact absurd hr (hne i f1 h1)
   | ret=>rfl
 | loop a ih =>
  intro ho m f f' h h' x f1 h1 H hL hf hr;simp only[evC] at hr ⊢;exact lp_q (ih ho) n _ _ _ _ _ _ _ _ H hL hf hr
 | rf g k ps ca cb aa ba _ _ =>
  intro ho m f f' h h' x f1 h1 H hL hf hr;simp only[okC,Bool.and_eq_true] at ho;have hx:=ev_q hf ho.1.1;simp only[evC] at hr ⊢;split at hr
  ·rename_i g0 fi ca0 e;rw[e] at hx;obtain⟨fi',ca0',e',y1,y2⟩:=hx.fn';rw[e'];simp only
   have hs:Sub m (ins m h.length h'.length):=by
    intro b b' e;have:=(H.lt e).1;simp only[ins];rw[if_neg (by omega)];exact e
   obtain⟨a1,a2,a3⟩:=alloc (lim:=lim) H (k:=.loop k f ps ca cb aa ba .ready) (k':=.loop k f' ps ca cb aa ba .ready) (.loop k ps ca cb aa ba .ready (hf.mono hs) ho.1.2 ho.2);split at hr
   ·rename_i v h2 ec;obtain⟨v',h2',m2,q1,q2,q3,q4⟩:=hc _ _ _ _ _ _ _ _ _ (.func g0) ((y1.mono hs).append (.cons (.yl a3) (y2.mono hs))) a1 (hL.step a2) ec;rw[q1];have el:=q4.ext _ _ a3;obtain⟨z1,z2⟩:=setB (lim:=lim) q3 el .dead fun _ _ _ _=>.dead;obtain⟨w,w',b1,b2,b3⟩:=q3.blk _ _ el;rw[b1] at hr;simp only[b2];have hfin:=hf.mono (hs.trans q4.ext);cases b3 with
    | loop n0 ps0 ca1 cb1 aa1 ba1 st0 hf0 _ _ =>
     cases st0 with
     | ready =>
      simp only at hr ⊢;cases hr;exact⟨f',_,m2,rfl,hfin,z1,(a2.trans q4).trans z2⟩
     | over x0 =>
      simp only at hr ⊢;cases hr;exact⟨f',_,m2,rfl,hfin,z1,(a2.trans q4).trans z2⟩
     | busy=>simp at hr
     | gone=>simp at hr
    | _=>simp at hr
   ·cases hr
  ·cases hr
theorem get_q (H:HR m h h'){f f':Fr}(hf:LR m f f'){r:ARes}(hr:r.get f h=some v):∃v',r.get f' h'=some v'/\VR m v v':=by
 cases r with
 | tmp t=>cases hr; exact⟨_,rfl,rd_q hf t⟩
 | cell a n agg =>
  simp only[ARes.get] at hr ⊢;have ha:=rd_q hf a;split at hr
  ·rename_i b o e;rw[e] at ha;obtain⟨b',eb,ea⟩:=ha.ptr';rw[ea];split at hr
   ·rename_i hg;simp only[Option.map_eq_some_iff] at hr;obtain⟨cs,hcs,rfl⟩:=hr;obtain⟨cs',q1,q2⟩:=rdN_q H eb hcs;exact⟨_,by simp only[if_pos hg,q1,Option.map_some],q2.aggL⟩
   ·rename_i hg;obtain⟨v',q1,q2⟩:=rdC_q H eb hr;exact⟨v',by simp only[if_neg hg,q1],q2⟩
  ·cases hr
theorem resL_q (H:HR m h h'){f f':Fr}(hf:LR m f f'):∀ {l:List ARes} {vs:List Value},resL f h l=some vs->∃vs',resL f' h' l=some vs'/\LR m vs vs':=by
 intro l
 induction l with
 | nil=>intro vs hr; cases hr; exact⟨[],rfl,.nil⟩
 | cons r l ih =>
  intro vs hr;simp only[resL] at hr ⊢;split at hr
  ·rename_i v vs0 e1 e2;cases hr;obtain⟨v',q1,q2⟩:=get_q H hf e1;obtain⟨vs',r1,r2⟩:=ih e2;exact⟨v'::vs',by simp only[q1,r1],.cons q2 r2⟩
  ·cases hr
theorem resV_q (H:HR m h h'){f f':Fr}(hf:LR m f f'){l:List ARes}(hr:resV f h l=some v):∃v',resV f' h' l=some v'/\VR m v v':=by
 unfold resV at hr ⊢;split at hr
 ·rename_i v0 e;cases hr;obtain⟨vs',q1,q2⟩:=resL_q H hf e;obtain⟨y,ys,rfl,h1,h2⟩:=q2.cases_cons;rw[h2.cases_nil] at q1;exact⟨y,by rw[q1],h1⟩
 ·rename_i vs hne e;cases hr;obtain⟨vs',q1,q2⟩:=resL_q H hf e;refine⟨.tuple vs'.toArray,?_,q2.tupL⟩;rw[q1];split
  ·rename_i e1;cases e1;have:=q2.1
   match vs,this,hne with
   | [v],_,hne=>exact absurd rfl (hne v)
  ·rename_i e1; cases e1; rfl
  ·rename_i e1; cases e1
 ·cases hr
theorem turn_q (H:HR m h h'){l l':Nat}{s s':RS}(e:m l=some l')(hr:turn h l s s'=some h1):∃h1',turn h' l' s s'=some h1'/\HR m h1 h1'/\Step lim m h h' m h1 h1':=by
 obtain⟨k,k',e1,e2,e3⟩:=H.blk l l' e;unfold turn at hr ⊢;rw[e1] at hr; rw[e2];cases e3 with
 | loop n0 ps0 ca1 cb1 aa1 ba1 st0 hf0 ha hb =>
  simp only at hr ⊢;split at hr
  ·rename_i hst;cases hr;rw[if_pos hst];refine⟨_,rfl,setB H e (.loop n0 ps0 ca1 cb1 aa1 ba1 s' hf0 ha hb) fun _ m0 _ q=>?_⟩;obtain⟨k1,k1',f1,f2,f3⟩:=q;rw[e1] at f1; rw[e2] at f2; cases f1; cases f2;cases f3 with
   | loop _ _ _ _ _ _ _ hf1 _ _=>exact .loop n0 ps0 ca1 cb1 aa1 ba1 s' hf1 ha hb
  ·cases hr
 | _=>simp at hr
theorem putL_q {ps:List Nat}:∀ {f f':Fr} {args args':List Value},LR m f f'->LR m args args'->LR m (putL f ps args) (putL f' ps args'):=by
 induction ps with
 | nil=>intro f f' args args' hf ha; cases args<;>cases args'<;>exact hf
 | cons t ts ih =>
  intro f f' args args' hf ha;cases args with
  | nil=>rw[ha.cases_nil]; exact hf
  | cons x xs =>
   obtain⟨y,ys,rfl,h1,h2⟩:=ha.cases_cons;exact ih (st_q hf h1) h2
theorem leave_q {m1:Mq}{keep:Bool}{h1':Hp}{v v' u:Value}{h2:Hp}(H0:HR m h h')(H:HR m1 h1 h1')(s:Step (if keep then lim else h.length) m h h' m1 h1 h1')(hv:VR m1 v v')(hr:leave keep h h1 v=some (u,h2)) :
  ∃u' h2' m2,leave keep h' h1' v'=some (u',h2')/\VR m2 u u'/\HR m2 h2 h2'/\Step lim m h h' m2 h2 h2':=by
 unfold leave at hr ⊢;cases keep with
 | true =>
  simp only[if_true,Option.some.injEq,Prod.mk.injEq] at hr s ⊢;obtain⟨rfl,rfl⟩:=hr;exact⟨v',h1',m1,⟨rfl,rfl⟩,hv,H,s⟩
 | false =>
  simp only[Bool.false_eq_true,if_false] at hr s ⊢;split at hr
  ·rename_i hfl;cases hr;rw[if_pos (by rw[hv.flat_eq]; exact hfl)]
   have keepB:∀ {m0:Mq} {b b':Nat},b<h.length->b'<h'.length->BA m0 h1 h1' b b'->BA m0 (h1.take h.length) (h1'.take h'.length) b b':=by
    intro m0 b b' l1 l2 q;obtain⟨k,k',e1,e2,e3⟩:=q;exact⟨k,k',by rw[List.getElem?_take,if_pos l1]; exact e1,by rw[List.getElem?_take,if_pos l2]; exact e2,e3⟩
   refine⟨v',_,m,rfl,hv.flat hfl,⟨fun b b' e=>?_,H0.inj⟩,⟨Sub.refl m,fun b b' e e0=>absurd (e.symm.trans e0) (by simp),?_,?_,fun b hb e=>?_,fun b' hb e=>?_,fun m0 hs b b' e hl q=>?_⟩⟩
   ·have⟨l1,l2⟩:=H0.lt e;exact keepB l1 l2 (s.low m (Sub.refl m) b b' e l1 (H0.blk b b' e))
   ·rw[List.length_take]; have:=s.len; omega
   ·rw[List.length_take]; have:=s.len'; omega
   ·rw[List.getElem?_take,if_pos hb]; exact s.af b hb e
   ·rw[List.getElem?_take,if_pos hb]; exact s.af' b' hb e
   ·have⟨l1,l2⟩:=H0.lt e;exact keepB l1 l2 (s.low m0 hs b b' e l1 q)
  ·cases hr
structure EnvQ (E:Env):Prop where
 T:∀g fn,E.T g=some fn->okC fn.ac=true
 O:∀c c' lim lim' g args args' h h' m v h1,CallQ c c' lim lim'->LR m args args'->HR m h h'->LimM lim lim' m h'->E.O c lim g args h=some (v,h1) ->
  ∃v' h1' m1,E.O c' lim' g args' h'=some (v',h1')/\VR m1 v v'/\HR m1 h1 h1'/\Step lim m h h' m1 h1 h1'
theorem evF_q {E:Env}(hE:EnvQ E):∀n lim lim',CallQ (evF E n lim) (evF E n lim') lim lim':=by
 intro n
 induction n with
 | zero=>intro lim lim' t t' args args' h h' m v h1 _ _ _ _ hr; simp[evF] at hr
 | succ n ih =>
  intro lim lim' t t' args args' h h' m v h1 ht ha H hL hr;cases ht with
  | func g =>
   simp only[evF] at hr ⊢;split at hr
   ·rename_i fn hfn;split at hr
    ·rename_i hl;rw[if_pos (by rw[<- ha.1]; exact hl)]
     have hL1:LimM (if fn.keep=true then lim else h.length) (if fn.keep=true then lim' else h'.length) m h':=by
      cases fn.keep
      ·exact⟨fun b b' e hb=>by have:=(H.lt e).1; simp at hb; omega,by simp⟩
      ·exact hL
     have hcq:=ih (if fn.keep=true then lim else h.length) (if fn.keep=true then lim' else h'.length)
     have key:∀f1 h2 x,evC (evF E n (if fn.keep=true then lim else h.length)) n (if fn.keep=true then lim else h.length) fn.ac args h=some (x,f1,h2) ->
       (match resV f1 h2 fn.res with | some v=>leave fn.keep h h2 v | none=>none)=some (v,h1) ->
       ∃f1' h2',evC (evF E n (if fn.keep=true then lim' else h'.length)) n (if fn.keep=true then lim' else h'.length) fn.ac args' h'=some (x,f1',h2') /\
       ∃v' h1' m1,(match resV f1' h2' fn.res with | some v=>leave fn.keep h' h2' v | none=>none)=some (v',h1')/\VR m1 v v'/\HR m1 h1 h1'/\Step lim m h h' m1 h1 h1':=by
      intro f1 h2 x e hr;obtain⟨f1',h2',m2,q1,q2,q3,q4⟩:=evC_q hcq n (hE.T g fn hfn) _ _ _ _ _ _ _ _ H hL1 ha e;refine⟨f1',h2',q1,?_⟩;split at hr
      ·rename_i u eu;obtain⟨u',r1,r2⟩:=resV_q q3 q2 eu;rw[r1];exact leave_q H q3 q4 r2 hr
      ·cases hr
     split at hr
     ·rename_i f1 h2 e;obtain⟨f1',h2',q1,q2⟩:=key _ _ _ e hr;rw[q1]; exact q2
     ·rename_i f1 h2 e;obtain⟨f1',h2',q1,q2⟩:=key _ _ _ e hr;rw[q1]; exact q2
     ·cases hr
    ·cases hr
   ·exact hE.O _ _ _ _ _ _ _ _ _ _ _ _ (ih lim lim') ha H hL hr
  | yl e =>
   rename_i l l';simp only[evF] at hr ⊢;obtain⟨k,k',e1,e2,e3⟩:=H.blk l l' e;rw[e1] at hr; rw[e2];cases e3 with
   | loop n0 ps0 ca1 cb1 aa1 ba1 st0 hf0 hoa hob =>
    cases st0 with
    | ready =>
     simp only at hr ⊢;split at hr
     ·rename_i hl;rw[if_pos (by rw[<- ha.1]; exact hl)];split at hr
      ·rename_i f1 h2 ec;obtain⟨f1',h2',m2,q1,q2,q3,q4⟩:=evC_q (ih lim lim') n hoa _ _ _ _ _ _ _ _ H hL (putL_q hf0 ha) ec;rw[q1];simp only;split at hr
       ·rename_i h3 et;obtain⟨h3',t1,t2,t3⟩:=turn_q (lim:=lim) q3 (q4.ext _ _ e) et;rw[t1];simp only;have L3:=(hL.step q4).step t3;split at hr
        ·rename_i f4 h4 ec2;obtain⟨f4',h4',m4,r1,r2,r3,r4⟩:=evC_q (ih lim lim') n hob _ _ _ _ _ _ _ _ t2 L3 q2 ec2;rw[r1];simp only[Option.map_eq_some_iff,Prod.mk.injEq] at hr ⊢;obtain⟨h5,et5,rfl,rfl⟩:=hr;obtain⟨h5',s1,s2,s3⟩:=turn_q (lim:=lim) r3 (r4.ext _ _ (q4.ext _ _ e)) et5;exact⟨_,h5',m4,⟨h5',s1,rfl,rfl⟩,.bool _,s2,((q4.trans t3).trans r4).trans s3⟩
        ·rename_i x f4 h4 hne ec2;obtain⟨f4',h4',m4,r1,r2,r3,r4⟩:=evC_q (ih lim lim') n hob _ _ _ _ _ _ _ _ t2 L3 q2 ec2;rw[r1];cases x with
         | norm=>exact absurd rfl hne
         | exit i =>
          simp only[Option.map_eq_some_iff,Prod.mk.injEq] at hr ⊢;obtain⟨h5,et5,rfl,rfl⟩:=hr;obtain⟨h5',s1,s2,s3⟩:=turn_q (lim:=lim) r3 (r4.ext _ _ (q4.ext _ _ e)) et5;exact⟨_,h5',m4,⟨h5',s1,rfl,rfl⟩,.bool _,s2,((q4.trans t3).trans r4).trans s3⟩
         | ret =>
          simp only[Option.map_eq_some_iff,Prod.mk.injEq] at hr ⊢;obtain⟨h5,et5,rfl,rfl⟩:=hr;obtain⟨h5',s1,s2,s3⟩:=turn_q (lim:=lim) r3 (r4.ext _ _ (q4.ext _ _ e)) et5;exact⟨_,h5',m4,⟨h5',s1,rfl,rfl⟩,.bool _,s2,((q4.trans t3).trans r4).trans s3⟩
        ·cases hr
       ·cases hr
      ·cases hr
     ·cases hr
    | _=>simp at hr
   | _=>simp at hr
end Go.Ab.Q
namespace Go.Ab
section
open Q
noncomputable def okG (g:Nat):Bool:=match envT g with
 | some fn=>okC fn.ac
 | none=>true
theorem okG_all:tabs.all okG=true:=by kernel_rfl
theorem all_mem {l:List Nat}{p:Nat->Bool}(h:l.all p=true){g:Nat}(hg:l.contains g=true):p g=true:=List.all_eq_true.1 h g (List.elem_iff.1 hg)
theorem tabs_of {g:Nat}{fn:AFn}(h:envT g=some fn):tabs.contains g=true:=by
 unfold envT at h;split at h
 ·rename_i hg; exact hg
 ·cases h
theorem envT_okC (g:Nat)(fn:AFn)(h:envT g=some fn):okC fn.ac=true:=by
 have hk:okG g=true:=all_mem okG_all (tabs_of h);unfold okG at hk;rw[h] at hk;exact hk
namespace Q
theorem evI_q {E:Env}(hM:EnvMono E)(hQ:EnvQ E)(lim lim':Nat):CallQ (evI E lim) (evI E lim') lim lim':=by
 intro t t' args args' h h' m v h1 ht ha H hL hr;obtain⟨n,hn⟩:=(evI_iff hM).1 hr;obtain⟨v',h1',m1,q1,q2⟩:=evF_q hQ n lim lim' _ _ _ _ _ _ _ _ _ ht ha H hL hn;exact⟨v',h1',m1,(evI_iff hM).2 ⟨n,q1⟩,q2⟩
theorem evI_same {E:Env}(hM:EnvMono E)(hQ:EnvQ E){lim lim':Nat}{g:FuncId}{args args':List Value}{h h' h1 h1':Hp}{m:Mq}{v v':Value}(ha:LR m args args')(H:HR m h h')(hL:lim'<=h'.length)(hl:∀b b',m b=some b'->lim<=b->lim'<=b')
  (e:evI E lim (.func g) args h=some (v,h1))(e':evI E lim' (.func g) args' h'=some (v',h1')):∃m1,VR m1 v v'/\HR m1 h1 h1'/\Step lim m h h' m1 h1 h1':=by
 obtain⟨u,k,m1,q1,q2,q3,q4⟩:=evI_q hM hQ lim lim' _ _ _ _ _ _ _ _ _ (.func g) ha H ⟨hl,hL⟩ e;rw[e'] at q1;cases q1;exact⟨m1,q2,q3,q4⟩
end Q
end
end Go.Ab
