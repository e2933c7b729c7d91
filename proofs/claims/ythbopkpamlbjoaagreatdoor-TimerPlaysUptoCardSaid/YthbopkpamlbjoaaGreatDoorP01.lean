/- What Go code of this program comes to on a small machine that its translation simulates (a part of the proof of a law of its timers). No condition. -/
import GoSem.Dispatch
import GoSem.Machine.Frame
import Derived.Orders
import Derived.Laws.World
import Derived.WalkKit
import Derived.MapKept
import Derived.Test.YthbopkpamlbjoaaGreatDoorCheckedLc
import Derived.Laws.StructEq
import Derived.ChangeKeysEq
import Derived.Laws.IdiomCopy
import Derived.Laws.BytesString
import Derived.Laws.Append
import Derived.OrdersIn
import Derived.Shelf.Abstract
import Derived.RangeFuncIn
import Derived.RangeFuncLeaves
import Derived.LoopNIn
import Derived.ControlIn
set_option linter.unusedSimpArgs false
set_option linter.unusedVariables false
set_option linter.unusedSectionVars false
set_option maxHeartbeats 4000000
namespace Go.Ab
section
abbrev Fr:=List Value
def Fr.rd (f:Fr)(t:Nat):Value:=f.getD t undef
def Fr.st:Fr->Nat->Value->Fr
 | [],0,v=>[v]
 | [],t+1,v=>undef::Fr.st [] t v
 | _::l,0,v=>v::l
 | x::l,t+1,v=>x::Fr.st l t v
def Fr.ev (f:Fr):Operand->Value
 | .tmp t=>f.rd t
 | .const v=>v
 | .global g=>.pointer (some ⟨g,0,none⟩)
 | .func g=>.func (.func g) #[] #[]
inductive LK where
 | int (k:IntKind) | str | bool
 deriving DecidableEq
inductive NK where
 | ptr | slice | map | func | iface
 deriving DecidableEq
inductive AOp where
 | mov (x:Operand)
 | pick (c a b:Operand)
 | bin (op:BinOp)(x y:Operand)
 | eqd (neg agg:Bool)(ks:List LK)(x y:Operand)
 | isnil (k:NK)(neg:Bool)(x:Operand)
 | un (op:UnOp)(x:Operand)
 | box (x:Operand)
 | zero (cs:List Value)
 | build (z:List Value)(ps:List (Nat×Nat×Operand))
 | bsl (es:Nat)(z:List Value)(ps:List (Nat×Nat×Operand))(len:Nat)
 | ld (a:Operand)
 | ldn (n:Nat)(a:Operand)
 | st (n:Nat)(a x:Operand)
 | nilc (x:Operand)
 | off (k:Nat)(x:Operand)
 | ixA (len es:Nat)(x i:Operand)
 | ixS (es:Nat)(x i:Operand)
 | chS (x i:Operand)
 | el (len es:Nat)(agg:Bool)(x i:Operand)
 | fld (o n:Nat)(agg:Bool)(x:Operand)
 | cutT (x:Operand)(lo hi:Option Operand)
 | cutS (es:Nat)(x:Operand)(lo hi:Option Operand)
 | cutA (len es:Nat)(x:Operand)(lo hi:Option Operand)
 | i2i (k:IntKind)(x:Operand)
 | i2s (x:Operand)
 | s2b (x:Operand)
 | b2s (x:Operand)
 | ifc (t:TypeId)(x:Operand)
 | fn (f:FuncId)(first captured:List Operand)
 | mkS (es bytes:Nat)(z:List Value)(l c:Operand)
 | mkM
 | mput (s:Bool)(x k v:Operand)
 | mget (s:Bool)(z:List Value)(agg:Bool)(ok:Bool)(x k:Operand)
 | ext (t:Operand)(i:Nat)
 | arrP (len:Nat)(x:Operand)
 | lnT (x:Operand)
 | lnS (x:Operand)
 | s2s (x:Operand)
 | lnA (n:Nat)
 | lnM (x:Operand)
 | mnV (xs:List Operand)
 | mxV (xs:List Operand)
 | app (es bytes:Nat)(s x:Operand)
 | copy (es:Nat)(d x:Operand)
 | clrS (es:Nat)(z:List Value)(x:Operand)
 | call (f:Operand)(args:List Operand)
 | rng (x:Operand)
 | nxt (x:Operand)
inductive AI where
 | op (d:Option Nat)(g:Option (Nat×Bool))(o:AOp)
 | chk (d:Nat)(g:Option (Nat×Bool))(o:AOp)
inductive AC where
 | skip
 | reg (l:List AI)
 | seq (a b:AC)
 | cond (c:Operand)(a b:AC)
 | block (id:Nat)(a:AC)
 | loop (a:AC)
 | exit (id:Nat)
 | ret
 | rf (g:Operand)(n:Nat)(ps:List Nat)(ca cb:Code)(aa ba:AC)
 | bad
inductive AX where
 | norm | exit (id:Nat) | ret
 deriving DecidableEq
inductive RS where
 | ready | busy | over (x:AX) | gone
 deriving DecidableEq
inductive Blk where
 | cells (own:Bool)(cs:List Value)
 | dead
 | map (es:List (Value×Value))
 | iter (s:ByteArray)(pos:Nat)
 | loop (n:Nat)(f:Fr)(ps:List Nat)(ca cb:Code)(aa ba:AC)(st:RS)
abbrev Hp:=List Blk
inductive ARes where
 | tmp (t:Nat)
 | cell (a n:Nat)(agg:Bool)
structure AFn where
 n:Nat
 ac:AC
 res:List ARes
 keep:Bool
def abin (op:BinOp)(a b:Value):Option Value :=
 match a,b with
 | .int k x,.int k' y =>
  match op with
  | .shl=>if y<0 then none else some (.int k (k.wrap (x*2 ^ (min y.toNat k.bits))))
  | .shr=>if y<0 then none else some (.int k (x.fdiv (2 ^ (min y.toNat k.bits))))
  | .add=>if k=k' then some (.int k (k.wrap (x+y))) else none
  | .sub=>if k=k' then some (.int k (k.wrap (x-y))) else none
  | .mul=>if k=k' then some (.int k (k.wrap (x*y))) else none
  | .quo=>if k=k' then if y=0 then none else some (.int k (k.wrap (x.tdiv y))) else none
  | .rem=>if k=k' then if y=0 then none else some (.int k (x.tmod y)) else none
  | .and=>if k=k' then some (.int k (k.wrap (BitVec.ofInt k.bits x&&&BitVec.ofInt k.bits y).toNat)) else none
  | .or=>if k=k' then some (.int k (k.wrap (BitVec.ofInt k.bits x|||BitVec.ofInt k.bits y).toNat)) else none
  | .xor=>if k=k' then some (.int k (k.wrap (BitVec.ofInt k.bits x ^^^ BitVec.ofInt k.bits y).toNat)) else none
  | .andNot=>if k=k' then some (.int k (k.wrap (BitVec.ofInt k.bits x&&&~~~(BitVec.ofInt k.bits y)).toNat)) else none
  | .eql=>if k=k' then some (.bool (x==y)) else none
  | .neq=>if k=k' then some (.bool (x != y)) else none
  | .lss=>if k=k' then some (.bool (decide (x<y))) else none
  | .leq=>if k=k' then some (.bool (decide (x<=y))) else none
  | .gtr=>if k=k' then some (.bool (decide (x>y))) else none
  | .geq=>if k=k' then some (.bool (decide (x>=y))) else none
 | .string x,.string y =>
  match op with
  | .add=>if((x.size+y.size:Nat):Int)>9223372036854775807 then none else some (.string (x++y))
  | .eql=>some (.bool (x.toList==y.toList))
  | .neq=>some (.bool (!(x.toList==y.toList)))
  | .lss=>some (.bool (Op.bytesLess x.toList y.toList))
  | .leq=>some (.bool (Op.bytesLess x.toList y.toList||x.toList==y.toList))
  | .gtr=>some (.bool (!(Op.bytesLess x.toList y.toList||x.toList==y.toList)))
  | .geq=>some (.bool (!Op.bytesLess x.toList y.toList))
  | _=>none
 | _,_=>none
def lkEq:LK->Value->Value->Option Bool
 | .int k,.int k1 a,.int k2 b=>if k1=k/\k2=k then some (a==b) else none
 | .str,.string a,.string b=>some (a==b)
 | .bool,.bool a,.bool b=>some (a==b)
 | _,_,_=>none
def lksEq:List LK->List Value->List Value->Option Bool
 | [],[],[]=>some true
 | k::ks,x::xs,y::ys=>match lkEq k x y,lksEq ks xs ys with
  | some a,some b=>some (a&&b)
  | _,_=>none
 | _,_,_=>none
def eqV (agg:Bool)(ks:List LK)(x y:Value):Option Bool :=
 match agg,x,y with
 | true,.agg xs,.agg ys=>lksEq ks xs.toList ys.toList
 | true,_,_=>none
 | false,x,y=>lksEq ks [x] [y]
def isNil:NK->Value->Option Bool
 | .ptr,.pointer a=>some a.isNone
 | .slice,.slice a _ _=>some a.isNone
 | .map,.map r=>some r.isNone
 | .func,.nilFunc=>some true
 | .func,.func _ _ _=>some false
 | .iface,.nilIface=>some true
 | .iface,.iface _ _=>some false
 | _,_=>none
def aun (op:UnOp)(x:Value):Option Value :=
 match op,x with
 | .neg,.int k n=>some (.int k (k.wrap (0-n)))
 | .xor,.int k n=>some (.int k (k.wrap (BitVec.ofInt k.bits (if k.signed then -1 else k.max) ^^^ BitVec.ofInt k.bits n).toNat))
 | .not,.bool b=>some (.bool (!b))
 | _,_=>none
def rdC (h:Hp)(b o:Nat):Option Value :=
 match h[b]? with
 | some (.cells _ cs)=>cs[o]?
 | _=>none
def rdN (h:Hp)(b o n:Nat):Option (List Value) :=
 match h[b]? with
 | some (.cells _ cs)=>if o+n<=cs.length then some ((cs.drop o).take n) else none
 | _=>none
def flat1:Value->Bool
 | .bool _ | .int _ _ | .string _ | .pointer none | .slice none _ _ | .map none | .nilFunc | .nilIface=>true
 | _=>false
def flatA:Value->Bool
 | .agg cs=>cs.toList.all flat1
 | v=>flat1 v
def flat:Value->Bool
 | .tuple vs=>vs.toList.all flatA
 | v=>flatA v
def single:Value->Bool
 | .agg _ | .tuple _=>false
 | _=>true
def lay:List Value->Nat->List Value->List Value
 | cs,_,[]=>cs
 | cs,o,v::vs=>lay (cs.set o v) (o+1) vs
def wrN (lim:Nat)(h:Hp)(b o:Nat)(vs:List Value):Option Hp :=
 match h[b]? with
 | some (.cells true cs)=>if o+vs.length<=cs.length/\vs.all single=true/\(lim<=b\/vs.all flat1=true) then some (h.set b (.cells true (lay cs o vs))) else none
 | _=>none
def fillL (z:List Value):List (Nat×Nat×Value)->Option (List Value)
 | []=>some z
 | (o,n,v)::rest =>
  if v.cells.toList.length=n/\o+n<=z.length then fillL (lay z o v.cells.toList) rest else none
def bound (lo hi:Option Value)(len:Nat):Option (Nat×Nat) :=
 match lo,hi with
 | none,none=>some (0,len)
 | some (.int _ l),none=>if 0<=l/\l<=len then some (l.toNat,len) else none
 | none,some (.int _ r)=>if 0<=r/\r<=len then some (0,r.toNat) else none
 | some (.int _ l),some (.int _ r)=>if 0<=r/\r<=len/\0<=l/\l<=r then some (l.toNat,r.toNat) else none
 | _,_=>none
def keyIs:Bool->Value->Bool
 | false,.int _ _=>true
 | true,.string _=>true
 | _,_=>false
def keyEq:Bool->Value->Value->Option Bool
 | false,.int k a,.int k' b=>if k=k' then some (a==b) else none
 | true,.string a,.string b=>some (a==b)
 | _,_,_=>none
def mfind (s:Bool)(k:Value):List (Value×Value)->Nat->Option (Option (Nat×Value))
 | [],_=>if keyIs s k then some none else none
 | (k',v)::es,i =>
  match keyEq s k k' with
  | some true=>some (some (i,v))
  | some false=>mfind s k es (i+1)
  | none=>none
def bytesOf:List Value->Option (List UInt8)
 | []=>some []
 | .int .u8 n::l=>(bytesOf l).map (UInt8.ofNat n.toNat::·)
 | _::_=>none
def srcOf (h:Hp)(es:Nat):Value->Option (Nat×List Value)
 | .slice none 0 0=>some (0,[])
 | .slice (some ⟨b,o,none⟩) n e=>if e=es then(rdN h b o (n*es)).map ((n,·)) else none
 | .string s=>if es=1 then some (s.size,s.data.toList.map fun b=>.int .u8 b.toNat) else none
 | _=>none
def mn2:Value->Value->Option Value
 | .int k x,.int k' y=>if k=k' then some (.int k (if y<x then y else x)) else none
 | _,_=>none
def mx2:Value->Value->Option Value
 | .int k x,.int k' y=>if k=k' then some (.int k (if y>x then y else x)) else none
 | _,_=>none
def foldV (g:Value->Value->Option Value):Value->List Value->Option Value
 | x,[]=>some x
 | x,y::l=>match g x y with | some z=>foldV g z l | none=>none
def mini:Value->Bool | .int _ _=>true | _=>false
def mapOf (h:Hp):Value->Option (List (Value×Value))
 | .map none=>some []
 | .map (some b)=>match h[b]? with
  | some (.map es)=>some es
  | _=>none
 | _=>none
def zeroVal (agg:Bool)(z:List Value):Value:=if agg then .agg z.toArray else z.getD 0 undef
def repl (n:Nat)(z:List Value):List Value:=(List.replicate n z).flatten
def AOp.run (lim:Nat)(ρ:Operand->Value)(h:Hp):AOp->Option (Value×Hp)
 | .mov x=>some (ρ x,h)
 | .pick c a b=>match ρ c with
  | .bool t=>some (if t then ρ a else ρ b,h)
  | _=>none
 | .bin op x y=>(abin op (ρ x) (ρ y)).map (·,h)
 | .eqd neg agg ks x y=>(eqV agg ks (ρ x) (ρ y)).map fun b=>(.bool (if neg then !b else b),h)
 | .isnil k neg x=>(isNil k (ρ x)).map fun b=>(.bool (if neg then !b else b),h)
 | .un op x=>(aun op (ρ x)).map (·,h)
 | .box x=>some (.pointer (some ⟨h.length,0,none⟩),h++[.cells true (ρ x).cells.toList])
 | .zero cs=>some (.pointer (some ⟨h.length,0,none⟩),h++[.cells true cs])
 | .build z ps=>(fillL z (ps.map fun(o,n,x)=>(o,n,ρ x))).map fun cs=>(.agg cs.toArray,h)
 | .bsl es z ps len=>(fillL z (ps.map fun(o,n,x)=>(o,n,ρ x))).map fun cs=>(.slice (some ⟨h.length,0,none⟩) len es,h++[.cells true cs])
 | .ld a=>match ρ a with
  | .pointer (some ⟨b,o,none⟩)=>(rdC h b o).map (·,h)
  | _=>none
 | .ldn n a=>match ρ a with
  | .pointer (some ⟨b,o,none⟩)=>(rdN h b o n).map fun cs=>(.agg cs.toArray,h)
  | _=>none
 | .st n a x=>match ρ a with
  | .pointer (some ⟨b,o,none⟩)=>if(ρ x).cells.toList.length=n then(wrN lim h b o (ρ x).cells.toList).map (undef,·) else none
  | _=>none
 | .nilc x=>match ρ x with
  | .pointer (some a)=>some (.pointer (some a),h)
  | .func (.func g) f c=>some (.func (.func g) f c,h)
  | _=>none
 | .off k x=>match ρ x with
  | .pointer (some ⟨b,o,none⟩)=>some (.pointer (some ⟨b,o+k,none⟩),h)
  | _=>none
 | .ixA len es x i=>match ρ x,ρ i with
  | .pointer (some ⟨b,o,none⟩),.int _ n=>if 0<=n/\n<len then some (.pointer (some ⟨b,o+n.toNat*es,none⟩),h) else none
  | _,_=>none
 | .ixS es x i=>match ρ x,ρ i with
  | .slice (some ⟨b,o,none⟩) len e,.int _ n=>if e=es/\0<=n/\n<len then some (.pointer (some ⟨b,o+n.toNat*es,none⟩),h) else none
  | _,_=>none
 | .chS x i=>match ρ x,ρ i with
  | .string s,.int _ n=>if 0<=n then(s[n.toNat]?).map fun b=>(.int .u8 b.toNat,h) else none
  | _,_=>none
 | .el len es agg x i=>match ρ x,ρ i with
  | .agg cs,.int _ n =>
   if 0<=n/\n<len then
    if agg then some (.agg (cs.extract (n.toNat*es) (n.toNat*es+es)),h) else(cs[n.toNat*es]?).map (·,h)
   else none
  | _,_=>none
 | .fld o n agg x=>match ρ x with
  | .agg cs=>if agg then some (.agg (cs.extract o (o+n)),h) else(cs[o]?).map (·,h)
  | _=>none
 | .cutT x lo hi=>match ρ x with
  | .string s=>(bound (lo.map ρ) (hi.map ρ) s.size).map fun(l,r)=>(.string (s.extract l r),h)
  | _=>none
 | .cutS es x lo hi=>match ρ x with
  | .slice none 0 0=>(bound (lo.map ρ) (hi.map ρ) 0).map fun _=>(.slice none 0 0,h)
  | .slice (some ⟨b,o,none⟩) len e=>if e=es then(bound (lo.map ρ) (hi.map ρ) len).map fun(l,r)=>(.slice (some ⟨b,o+l*es,none⟩) (r-l) es,h) else none
  | _=>none
 | .cutA len es x lo hi=>match ρ x with
  | .pointer (some ⟨b,o,none⟩)=>match h[b]? with
   | some (.cells _ cs)=>if o+len*es<=cs.length then(bound (lo.map ρ) (hi.map ρ) len).map fun(l,r)=>(.slice (some ⟨b,o+l*es,none⟩) (r-l) es,h) else none
   | _=>none
  | _=>none
 | .i2i k x=>match ρ x with
  | .int _ n=>some (.int k (k.wrap n),h)
  | _=>none
 | .i2s x=>match ρ x with
  | .int _ n=>some (.string (Utf8.encode n),h)
  | _=>none
 | .s2b x=>match ρ x with
  | .string s=>some (.slice (some ⟨h.length,0,none⟩) s.size 1,h++[.cells true (s.data.toList.map fun b=>.int .u8 b.toNat)])
  | _=>none
 | .b2s x=>match ρ x with
  | .slice none 0 0=>some (.string .empty,h)
  | .slice (some ⟨b,o,none⟩) n 1=>((rdN h b o n).bind bytesOf).map fun l=>(.string ⟨l.toArray⟩,h)
  | _=>none
 | .ifc t x=>some (.iface t (ρ x),h)
 | .fn f first captured=>some (.func (.func f) (first.map ρ).toArray (captured.map ρ).toArray,h)
 | .mkS es bytes z l c=>match ρ l,ρ c with
  | .int .i64 l,.int .i64 c=>if 0<=l/\l<=c/\c*bytes<=140737488355328/\c<=9223372036854775807 then some (.slice (some ⟨h.length,0,none⟩) l.toNat es,h++[.cells true (repl l.toNat z)]) else none
  | _,_=>none
 | .mkM=>some (.map (some h.length),h++[.map []])
 | .mput s x k v=>match ρ x with
  | .map (some b)=>match h[b]? with
   | some (.map es) =>
    if lim<=b\/flatA (ρ v)=true then
     match mfind s (ρ k) es 0 with
     | some (some (i,_))=>some (undef,h.set b (.map (es.set i (ρ k,ρ v))))
     | some none=>some (undef,h.set b (.map (es++[(ρ k,ρ v)])))
     | none=>none
    else none
   | _=>none
  | _=>none
 | .mget s z agg ok x k =>
  match mapOf h (ρ x) with
  | some es=>match mfind s (ρ k) es 0 with
   | some (some (_,v))=>some (if ok then .tuple #[v,.bool true] else v,h)
   | some none=>some (if ok then .tuple #[zeroVal agg z,.bool false] else zeroVal agg z,h)
   | none=>none
  | none=>none
 | .ext t i=>match ρ t with
  | .tuple vs=>(vs[i]?).map (·,h)
  | _=>none
 | .arrP len x=>match ρ x with
  | .slice (some a) n _=>if 0<len/\len<=n then some (.pointer (some a),h) else none
  | _=>none
 | .lnT x=>match ρ x with
  | .string s=>some (.int .i64 s.size,h)
  | _=>none
 | .lnS x=>match ρ x with
  | .slice _ n _=>some (.int .i64 n,h)
  | _=>none
 | .s2s x=>match ρ x with
  | .string s=>some (.string s,h)
  | _=>none
 | .lnA n=>some (.int .i64 n,h)
 | .lnM x=>match ρ x with
  | .map none=>some (.int .i64 0,h)
  | .map (some b)=>match h[b]? with
   | some (.map es)=>some (.int .i64 es.length,h)
   | _=>none
  | _=>none
 | .mnV xs=>match xs.map ρ with
  | x::l=>if mini x then(foldV mn2 x l).map (·,h) else none
  | []=>none
 | .mxV xs=>match xs.map ρ with
  | x::l=>if mini x then(foldV mx2 x l).map (·,h) else none
  | []=>none
 | .app es bytes s x =>
  match srcOf h es (ρ x) with
  | some (n,new) =>
   if n=0 then(match ρ s with
    | .slice none 0 0=>some (.slice none 0 0,h)
    | .slice (some a) l e=>some (.slice (some a) l e,h)
    | _=>none) else if new.all single=true then
   match ρ s with
   | .slice none 0 0=>if n*bytes<=140737488355328 then some (.slice (some ⟨h.length,0,none⟩) n es,h++[.cells true new]) else none
   | .slice (some ⟨b,o,none⟩) l e=>match h[b]? with
    | some (.cells true cs) =>
     if e=es/\o=0/\o+l*es=cs.length/\(l+n)*bytes<=140737488355328 then
      some (.slice (some ⟨h.length,0,none⟩) (l+n) es,(h.set b .dead)++[.cells true (cs.drop o++new)])
     else if e=es/\o=0/\o+l*es<=cs.length/\(l+n)*bytes<=140737488355328 then
      some (.slice (some ⟨h.length,0,none⟩) (l+n) es,(h.set b .dead)++[.cells true ((cs.drop o).take (l*es)++new)])
     else none
    | _=>none
   | _=>none
   else none
  | none=>none
 | .copy es d x=>match ρ d with
  | .slice none 0 0=>(srcOf h es (ρ x)).map fun _=>(.int .i64 0,h)
  | .slice (some ⟨b,o,none⟩) l e=>match srcOf h es (ρ x) with
   | some (n,new)=>if e=es then(wrN lim h b o (new.take (min n l*es))).map (.int .i64 (min n l:Nat),·) else none
   | none=>none
  | _=>none
 | .clrS es z x=>match ρ x with
  | .slice none 0 0=>some (.tuple #[],h)
  | .slice (some ⟨b,o,none⟩) l e=>if e=es then(wrN lim h b o (repl l z)).map (.tuple #[],·) else none
  | _=>none
 | .rng x=>match ρ x with
  | .string s=>some (.pointer (some ⟨h.length,0,none⟩),h++[.iter s 0])
  | _=>none
 | .nxt x=>match ρ x with
  | .pointer (some ⟨b,0,none⟩)=>match h[b]? with
   | some (.iter s pos)=>if pos<s.size then some (.tuple #[.bool true,.int .i64 pos,.int .i32 (Utf8.decode s pos).1],h.set b (.iter s (pos+(Utf8.decode s pos).2))) else some (.tuple #[.bool false],h)
   | _=>none
  | _=>none
 | .call _ _=>none
abbrev CallT:=Fn->List Value->Hp->Option (Value×Hp)
def goes (f:Fr):Option (Nat×Bool)->Bool
 | none=>true
 | some (t,want)=>match f.rd t with
  | .bool b=>b==want
  | _=>false
def put (f:Fr):Option Nat->Value->Fr
 | some d,v=>f.st d v
 | none,_=>f
def AOp.go (call:CallT)(lim:Nat)(ρ:Operand->Value)(h:Hp):AOp->Option (Value×Hp)
 | .call f args=>match ρ f with
  | .func (.func g) first captured=>call (.func g) (first.toList++args.map ρ++captured.toList) h
  | .func (.yield l) first captured=>if first.size=0/\captured.size=0 then call (.yield l) (args.map ρ) h else none
  | _=>none
 | o=>o.run lim ρ h
def sure1:Value->Value->Bool
 | .bool a,.bool b=>a==b
 | .int k a,.int k' b=>k==k'&&a==b
 | .string a,.string b=>a==b
 | .pointer a,.pointer b=>a==b
 | .slice a l c,.slice a' l' c'=>a==a'&&l==l'&&c==c'
 | .map a,.map b=>a==b
 | .nilFunc,.nilFunc | .nilIface,.nilIface=>true
 | .func f a b,.func g c d=>f==g&&a.size==0&&b.size==0&&c.size==0&&d.size==0
 | _,_=>false
def sureL:List Value->List Value->Bool
 | [],[]=>true
 | x::xs,y::ys=>sure1 x y&&sureL xs ys
 | _,_=>false
def sure:Value->Value->Bool
 | .agg xs,.agg ys=>sureL xs.toList ys.toList
 | x,y=>sure1 x y
def AI.run (call:CallT)(lim:Nat)(f:Fr)(h:Hp):AI->Option (Fr×Hp)
 | .op d g o=>if goes f g then(o.go call lim f.ev h).map fun(v,h)=>(put f d v,h) else some (put f d undef,h)
 | .chk d g o=>if goes f g then(match o.run lim f.ev h with
   | some (v,_)=>if sure (f.rd d) v then some (f,h) else none
   | none=>none) else some (f,h)
def runL (call:CallT)(lim:Nat):List AI->Fr->Hp->Option (Fr×Hp)
 | [],f,h=>some (f,h)
 | i::l,f,h=>match i.run call lim f h with
  | some (f,h)=>runL call lim l f h
  | none=>none
def lp (step:Fr->Hp->Option (AX×Fr×Hp)):Nat->Fr->Hp->Option (AX×Fr×Hp)
 | 0,_,_=>none
 | n+1,f,h=>match step f h with
  | some (.norm,f,h)=>lp step n f h
  | r=>r
def evC (call:CallT)(n lim:Nat):AC->Fr->Hp->Option (AX×Fr×Hp)
 | .skip,f,h=>some (.norm,f,h)
 | .reg l,f,h=>(runL call lim l f h).map fun(f,h)=>(.norm,f,h)
 | .seq a b,f,h=>match evC call n lim a f h with
  | some (.norm,f,h)=>evC call n lim b f h
  | r=>r
 | .cond c a b,f,h=>match f.ev c with
  | .bool true=>evC call n lim a f h
  | .bool false=>evC call n lim b f h
  | _=>none
 | .block id a,f,h=>match evC call n lim a f h with
  | some (.exit i,f,h)=>if i=id then some (.norm,f,h) else some (.exit i,f,h)
  | r=>r
 | .loop a,f,h=>lp (fun f h=>evC call n lim a f h) n f h
 | .exit id,f,h=>some (.exit id,f,h)
 | .ret,f,h=>some (.ret,f,h)
 | .rf g n ps ca cb aa ba,f,h=>match f.ev g with
  | .func (.func g) first captured =>
   match call (.func g) (first.toList++.func (.yield h.length) #[] #[]::captured.toList) (h++[.loop n f ps ca cb aa ba .ready]) with
   | some (_,h2)=>match h2[h.length]? with
    | some (.loop _ _ _ _ _ _ _ .ready)=>some (.norm,f,h2.set h.length .dead)
    | some (.loop _ _ _ _ _ _ _ (.over x))=>some (x,f,h2.set h.length .dead)
    | _=>none
   | none=>none
  | _=>none
 | .bad,_,_=>none
def putL (f:Fr):List Nat->List Value->Fr
 | t::ts,v::vs=>putL (f.st t v) ts vs
 | _,_=>f
def ARes.get (f:Fr)(h:Hp):ARes->Option Value
 | .tmp t=>some (f.rd t)
 | .cell a n agg=>match f.rd a with
  | .pointer (some ⟨b,o,none⟩)=>if agg then(rdN h b o n).map fun cs=>.agg cs.toArray else rdC h b o
  | _=>none
def resL (f:Fr)(h:Hp):List ARes->Option (List Value)
 | []=>some []
 | r::l=>match r.get f h,resL f h l with
  | some v,some vs=>some (v::vs)
  | _,_=>none
def resV (f:Fr)(h:Hp)(l:List ARes):Option Value :=
 match resL f h l with
 | some [v]=>some v
 | some vs=>some (.tuple vs.toArray)
 | none=>none
structure Env where
 T:Nat->Option AFn
 O:CallT->Nat->Nat->List Value->Hp->Option (Value×Hp)
def leave (keep:Bool)(h0 h:Hp)(v:Value):Option (Value×Hp) :=
 if keep then some (v,h) else if flat v then some (v,h.take h0.length) else none
def turn (h:Hp)(l:Nat)(s s':RS):Option Hp:=match h[l]? with
 | some (.loop k f ps ca cb aa ba s0)=>if s0=s then some (h.set l (.loop k f ps ca cb aa ba s')) else none
 | _=>none
def evF (E:Env):Nat->Nat->CallT
 | 0,_,_,_,_=>none
 | n+1,lim,.func g,args,h =>
  match E.T g with
  | some fn =>
   if args.length<=fn.n then
    match evC (evF E n (if fn.keep then lim else h.length)) n (if fn.keep then lim else h.length) fn.ac args h with
    | some (.norm,f,h') | some (.ret,f,h')=>match resV f h' fn.res with
     | some v=>leave fn.keep h h' v
     | none=>none
    | _=>none
   else none
  | none=>E.O (evF E n lim) lim g args h
 | n+1,lim,.yield l,args,h =>
  match h[l]? with
  | some (.loop _ f ps _ _ aa ba .ready) =>
   if args.length=ps.length then
    match evC (evF E n lim) n lim aa (putL f ps args) h with
    | some (.norm,f1,h1)=>match turn h1 l .ready .busy with
     | some h2=>match evC (evF E n lim) n lim ba f1 h2 with
      | some (.norm,_,h3)=>(turn h3 l .busy .ready).map (.bool true,·)
      | some (x,_,h3)=>(turn h3 l .busy (.over x)).map (.bool false,·)
      | none=>none
     | none=>none
    | _=>none
   else none
  | _=>none
 | _+1,_,_,_,_=>none
end
section
def szOf (P:Program)(t:TypeId):Option Nat:=(P.info? t).map (·.size)
def byOf (P:Program)(t:TypeId):Option Nat:=(P.info? t).map (·.bytes)
def aggOf (P:Program)(t:TypeId):Option Bool:=(P.underlying t).map fun
 | .struct _ | .array _ _=>true
 | _=>false
def flatK:Value->Bool
 | .bool _ | .int _ _ | .string _ | .pointer none | .slice none 0 0 | .map none | .nilFunc | .nilIface=>true
 | _=>false
def constK:Value->Bool
 | .agg cs=>cs.toList.all flatK
 | .tuple vs=>vs.size==0
 | v=>flatK v
def zeroOf (P:Program)(t:TypeId):Option (List Value) :=
 match P.info? t with
 | some i=>match i.zero with
  | some z=>if constK z&&z.cells.toList.length==i.size then some z.cells.toList else none
  | none=>none
 | none=>none
def opdOk (n:Nat):Operand->Bool
 | .tmp t=>decide (t<n)
 | .const v=>constK v
 | .global _=>false
 | .func _=>true
def opdsOk (n:Nat)(l:List Operand):Bool:=l.all (opdOk n)
def leavesF (P:Program)(L:TypeId->Option (List LK)):List Field->Nat->Option (List LK)
 | [],_=>some []
 | f::fs,off=>(L f.type).bind fun l =>
  if f.name ≠ "_" /\ f.offset=off/\szOf P f.type=some l.length then(leavesF P L fs (off+l.length)).map (l++·) else none
def leaves (P:Program):Nat->TypeId->Option (List LK)
 | 0,_=>none
 | d+1,t=>match P.underlying t with
  | some (.int k)=>some [.int k]
  | some .string=>some [.str]
  | some .bool=>some [.bool]
  | some (.struct fs)=>if P.stoodInHeld t then none else leavesF P (leaves P d) fs.toList 0
  | some (.array n e)=>(leaves P d e).bind fun l=>if szOf P e=some l.length then some (List.replicate n l).flatten else none
  | _=>none
def nkOf:TypeDesc->Option NK
 | .pointer _=>some .ptr
 | .slice _=>some .slice
 | .map _ _=>some .map
 | .func _ _ _=>some .func
 | .interface _=>some .iface
 | _=>none
def nilConst:NK->Operand->Bool
 | .ptr,.const (.pointer none) | .slice,.const (.slice none _ _) | .map,.const (.map none) | .func,.const .nilFunc | .iface,.const .nilIface=>true
 | _,_=>false
def cBool (op:BinOp)(x y:Operand):Option AOp :=
 if op=.eql then some (.eqd false false [.bool] x y) else if op=.neq then some (.eqd true false [.bool] x y) else none
def cAgg (P:Program)(op:BinOp)(t:TypeId)(x y:Operand):Option AOp :=
 if P.eqGuardType P.depth t then none else(leaves P 100 t).bind fun ks =>
  if op=.eql then some (.eqd false true ks x y) else if op=.neq then some (.eqd true true ks x y) else none
def cNil (op:BinOp)(k:NK)(x y:Operand):Option AOp :=
 if op=.eql\/op=.neq then
  if nilConst k y then some (.isnil k (op==.neq) x) else if nilConst k x then some (.isnil k (op==.neq) y) else none
 else none
def cBinD (P:Program)(op:BinOp)(t:TypeId)(x y:Operand):TypeDesc->Option AOp
 | .int _=>some (.bin op x y)
 | .string=>some (.bin op x y)
 | .bool=>cBool op x y
 | .struct _=>cAgg P op t x y
 | .array _ _=>cAgg P op t x y
 | d=>(nkOf d).bind fun k=>cNil op k x y
def cBin (P:Program)(op:BinOp)(t:TypeId)(x y:Operand):Option AOp:=(P.underlying t).bind (cBinD P op t x y)
def cConv (P:Program)(s d:TypeId)(x:Operand):Option AOp :=
 match P.underlying s,P.underlying d with
 | some (.int _),some (.int k)=>some (.i2i k x)
 | some (.int _),some .string=>some (.i2s x)
 | some .string,some .string=>some (.s2s x)
 | some .string,some (.slice e)=>match P.underlying e,szOf P e with
  | some (.int .u8),some 1=>some (.s2b x)
  | _,_=>none
 | some (.slice e),some .string=>match P.underlying e,szOf P e with
  | some (.int .u8),some 1=>some (.b2s x)
  | _,_=>none
 | _,_=>none
def partsOf (P:Program)(fs:Array Field):List (Nat×Operand)->Option (List (Nat×Nat×Operand))
 | []=>some []
 | (i,x)::l=>match fs[i]?,partsOf P fs l with
  | some f,some l'=>(szOf P f.type).map fun s=>(f.offset,s,x)::l'
  | _,_=>none
def cParts (P:Program)(t:TypeId)(parts:Array (Nat×Operand)):Option (List (Nat×Nat×Operand)) :=
 match P.underlying t with
 | some (.struct fs)=>if fs.toList.all (fun f=>(szOf P f.type).isSome) then partsOf P fs parts.toList else none
 | some (.array _ e)=>(szOf P e).map fun s=>parts.toList.map fun(i,x)=>(i*s,s,x)
 | _=>none
def zeroFits (P:Program)(e:TypeId)(g:Bool)(z:List Value):Bool:=match(P.info? e).bind (·.zero) with
 | some (.agg cs)=>g&&decide (z.length=cs.size)
 | some v=>!g&&single v&&decide (z.length=1)
 | none=>false
def keyOk (P:Program)(t:TypeId):Option Bool:=match P.underlying t with
 | some (.int _)=>some false
 | some .string=>some true
 | _=>none
def cBuiltin (P:Program)(b:Builtin)(args:List Operand)(ts:List TypeId):Option AOp :=
 match b,args,ts with
 | .len,[x],[t]=>match P.underlying t with
  | some .string=>some (.lnT x)
  | some (.slice _)=>some (.lnS x)
  | some (.array n _)=>some (.lnA n)
  | some (.pointer a)=>match P.underlying a with
   | some (.array n _)=>some (.lnA n)
   | _=>none
  | some (.map _ _)=>some (.lnM x)
  | _=>none
 | .append,[s,x],[t,u]=>match P.underlying t with
  | some (.slice e)=>match P.underlying u,szOf P e,byOf P e,zeroOf P e with
   | some (.int _),_,_,_=>none
   | some _,some (z+1),some (by_+1),some _=>some (.app (z+1) (by_+1) s x)
   | _,_,_,_=>none
  | _=>none
 | .min,xs,_=>some (.mnV xs)
 | .max,xs,_=>some (.mxV xs)
 | .copy,[d,x],t::_=>match P.underlying t with
  | some (.slice e)=>match szOf P e with
   | some (z+1)=>some (.copy (z+1) d x)
   | _=>none
  | _=>none
 | .clear,[x],[t]=>match P.underlying t with
  | some (.slice e)=>match szOf P e,zeroOf P e with
   | some (z+1),some zs=>some (.clrS (z+1) zs x)
   | _,_=>none
  | _=>none
 | _,_,_=>none
def cOp (P:Program):Op->Option AOp
 | .move x | .assign x=>some (.mov x)
 | .pick c a b=>some (.pick c a b)
 | .alloc t=>(zeroOf P t).map .zero
 | .box _ x=>some (.box x)
 | .build t ps=>match zeroOf P t,cParts P t ps with
  | some z,some l=>some (.build z l)
  | _,_=>none
 | .buildSlice t len ps=>match P.underlying t with
  | some (.slice e)=>match szOf P e,zeroOf P e with
   | some (s+1),some z=>if len*(s+1)<=2 ^ 24 then some (.bsl (s+1) (repl len z) (ps.toList.map fun(i,x)=>(i*(s+1),s+1,x)) len) else none
   | _,_=>none
  | _=>none
 | .insert t m k v | .mapUpdate t m k v=>match P.underlying t with
  | some (.map kt _)=>(keyOk P kt).map fun s=>.mput s m k v
  | _=>none
 | .load t a=>match aggOf P t,szOf P t with
  | some true,some n=>some (.ldn n a)
  | some false,some _=>some (.ld a)
  | _,_=>none
 | .store t a x=>(szOf P t).map fun n=>.st n a x
 | .nilCheck x=>some (.nilc x)
 | .binOp op t x y _=>cBin P op t x y
 | .unOp op _ x=>some (.un op x)
 | .convert s d x=>cConv P s d x
 | .sliceToArrayPointer t x=>match P.underlying t with
  | some (.array n _)=>some (.arrP n x)
  | _=>none
 | .makeInterface t x=>match P.underlying t with
  | some (.interface _)=>none
  | some _=>some (.ifc t x)
  | none=>none
 | .makeFunc f first captured=>match f with
  | .func g=>some (.fn g first.toList captured.toList)
  | _=>none
 | .makeMap t r=>match P.underlying t,r with
  | some (.map _ _),none=>some .mkM
  | some (.map _ _),some (.const (.int _ _))=>some .mkM
  | _,_=>none
 | .makeSlice t l c=>match P.underlying t with
  | some (.slice e)=>match szOf P e,byOf P e,zeroOf P e with
   | some (s+1),some b,some z=>some (.mkS (s+1) b z l c)
   | _,_,_=>none
  | _=>none
 | .slice t x lo hi none=>match P.underlying t with
  | some .string=>some (.cutT x lo hi)
  | some (.slice e)=>match szOf P e with
   | some (s+1)=>some (.cutS (s+1) x lo hi)
   | _=>none
  | some (.array n e)=>match szOf P e with
   | some (s+1)=>some (.cutA n (s+1) x lo hi)
   | _=>none
  | _=>none
 | .fieldAddr t x i=>match P.underlying t with
  | some (.struct fs)=>match fs[i]? with
   | some f=>match szOf P f.type with
    | some (_+1)=>some (.off f.offset x)
    | _=>none
   | none=>none
  | _=>none
 | .field t x i=>match P.underlying t with
  | some (.struct fs)=>match fs[i]? with
   | some f=>match szOf P f.type,aggOf P f.type with
    | some s,some g=>some (.fld f.offset s g x)
    | _,_=>none
   | none=>none
  | _=>none
 | .indexAddr t x i=>match P.underlying t with
  | some (.array n e)=>match szOf P e with
   | some (s+1)=>some (.ixA n (s+1) x i)
   | _=>none
  | some (.slice e)=>match szOf P e with
   | some (s+1)=>some (.ixS (s+1) x i)
   | _=>none
  | _=>none
 | .index t x i=>match P.underlying t with
  | some .string=>some (.chS x i)
  | some (.array n e)=>match szOf P e,aggOf P e with
   | some s,some g=>some (.el n s g x i)
   | _,_=>none
  | _=>none
 | .lookup t x k ok=>match P.underlying t with
  | some (.map kt e)=>match zeroOf P e,aggOf P e,keyOk P kt with
   | some z,some g,some s=>if zeroFits P e g z then some (.mget s z g ok x k) else none
   | _,_,_=>none
  | _=>none
 | .extract t i=>some (.ext t i)
 | .range t x=>match P.underlying t with
  | some .string=>some (.rng x)
  | _=>none
 | .next x true=>some (.nxt x)
 | .call c=>match c.callee with
  | .value f=>some (.call f c.args.toList)
  | .builtin b=>cBuiltin P b c.args.toList c.argTypes.toList
  | .invoke _ _=>none
 | _=>none
def cGuard (ops:Array Oper):Option (Nat×Bool)->Option (Option (Nat×Bool))
 | none=>some none
 | some (j,w)=>match(ops[j]?).bind (·.dst) with
  | some t=>some (some (t,w))
  | none=>none
def dstOk (n:Nat):Option Nat->Bool
 | none=>true
 | some d=>decide (d<n)
def gOk (n:Nat):Option (Nat×Bool)->Bool
 | none=>true
 | some (t,_)=>decide (t<n)
def cOper (P:Program)(n:Nat)(ops:Array Oper)(o:Oper):Option (Option (Nat×Bool)×AOp) :=
 match cGuard ops o.guard,cOp P o.op with
 | some g,some a=>if opdsOk n o.op.operands.toList&&dstOk n o.dst&&gOk n g then some (g,a) else none
 | _,_=>none
def cPlain (P:Program)(n:Nat)(ops:Array Oper):List Oper->Option (List AI)
 | []=>some []
 | o::l=>match cOper P n ops o,cPlain P n ops l with
  | some (g,a),some l=>some (.op o.dst g a::l)
  | _,_=>none
def reads:AOp->Bool
 | .ld _ | .ldn _ _ | .b2s _ | .mget .. | .lnM _ | .cutA ..=>true
 | _=>false
def acts:AOp->Bool
 | .st .. | .mput .. | .app .. | .copy .. | .clrS .. | .call .. | .rng .. | .nxt ..=>true
 | _=>false
def makes:AOp->Bool
 | .box _ | .zero _ | .bsl .. | .s2b _ | .mkS .. | .mkM=>true
 | _=>false
def edgesOf (ops:Array Oper)(i:Nat):List Nat :=
 match ops[i]? with
 | some o=>o.after.toList.filterMap fun e=>if Region.binds .any e then some e.on else none
 | none=>[]
def aheadTo (ops:Array Oper):Nat->List (List Nat)
 | 0=>[]
 | i+1=>let A:=aheadTo ops i
  A++[((edgesOf ops i).flatMap fun j=>j::A.getD j []).eraseDups]
def looks (ops:Array Oper)(i:Nat):List Nat :=
 match ops[i]? with
 | some o=>o.looksAt ops
 | none=>[]
def dstOf (ops:Array Oper)(i:Nat):Option Nat:=(ops[i]?).bind (·.dst)
def aopOf (P:Program)(ops:Array Oper)(i:Nat):Option AOp:=(ops[i]?).bind fun o=>cOp P o.op
def free (P:Program)(ops:Array Oper)(A:List (List Nat))(i:Nat):Bool :=
 (match aopOf P ops i with
  | some a=>!acts a
  | none=>false) &&
 (match dstOf ops i with
  | some d=>!(looks ops i).contains d&&(List.range ops.size).all fun j=>j==i||((!(looks ops j).contains d||(A.getD j []).contains i)&&dstOf ops j != some d)
  | none=>false)
def frees (P:Program)(ops:Array Oper)(A:List (List Nat)):List Bool:=(List.range ops.size).map (free P ops A)
def drawOk (ops:Array Oper)(A:List (List Nat))(F:List Bool):Bool :=
 (List.range ops.size).all fun i=>((edgesOf ops i).all fun e=>decide (e<i))&&(F.getD i false ||
  (List.range ops.size).all fun j=>j==i ||
   ((F.getD j false||(A.getD j []).contains i||(A.getD i []).contains j) &&
    (match dstOf ops i with
    | some d=>(!(looks ops j).contains d||(A.getD j []).contains i||(A.getD i []).contains j)&&dstOf ops j != some d
    | none=>true)))
def readyB (ops:Array Oper)(done:List Nat)(i:Nat):Bool:=!done.contains i&&(edgesOf ops i).all done.contains
def pick1 (ops:Array Oper)(F:List Bool)(want:Bool)(done:List Nat):Option Nat :=
 (List.range ops.size).find? fun i=>F.getD i false==want&&readyB ops done i
def cAt (P:Program)(n:Nat)(ops:Array Oper)(i:Nat):Option AI :=
 match ops[i]? with
 | some o=>(cOper P n ops o).map fun(g,a)=>.op o.dst g a
 | none=>none
def chkAt (P:Program)(n:Nat)(ops:Array Oper)(i:Nat):Option AI :=
 match ops[i]? with
 | some o=>match cOper P n ops o,o.dst with
  | some (g,a),some d=>some (.chk d g a)
  | _,_=>none
 | none=>none
def chks (P:Program)(n:Nat)(ops:Array Oper)(A:List (List Nat))(F:List Bool)(s:Nat):List Nat->Option (List AI)
 | []=>some []
 | i::l=>match chks P n ops A F s l with
  | some t =>
   if F.getD i false&&!(A.getD s []).contains i&&(match aopOf P ops i with | some a=>reads a | none=>true) then
    (chkAt P n ops i).map (·::t)
   else some t
  | none=>none
def cDraw (P:Program)(n:Nat)(ops:Array Oper)(A:List (List Nat))(F:List Bool):Nat->List Nat->Option (List AI)
 | 0,_=>some []
 | f+1,done =>
  match pick1 ops F true done with
  | some i=>match cAt P n ops i,cDraw P n ops A F f (i::done) with
   | some a,some l=>some (a::l)
   | _,_=>none
  | none=>match pick1 ops F false done with
   | some s=>match cAt P n ops s,chks P n ops A F s done,cDraw P n ops A F f (s::done) with
    | some a,some c,some l=>some (a::(c++l))
    | _,_,_=>none
   | none=>some []
def cReg (P:Program)(n:Nat)(ops:Array Oper)(draw:Bool):Option (List AI) :=
 if draw then
  let A:=aheadTo ops ops.size
  let F:=frees P ops A
  if drawOk ops A F then cDraw P n ops A F ops.size [] else none
 else cPlain P n ops ops.toList
def cCode (P:Program)(n:Nat)(top:Bool):Code->AC
 | .skip=>.skip
 | .region _ ops d=>match cReg P n ops d with
  | some l=>.reg l
  | none=>.bad
 | .seq a b=>.seq (cCode P n top a) (cCode P n top b)
 | .cond c a b=>if opdOk n c then .cond c (cCode P n top a) (cCode P n top b) else .bad
 | .block id a=>.block id (cCode P n top a)
 | .loop a=>.loop (cCode P n top a)
 | .exit id=>.exit id
 | .ret=>.ret
 | .rangeFunc g ps a b=>if top&&opdOk n g&&ps.toList.all (fun t=>decide (t<n)) then .rf g n ps.toList a b (cCode P n false a) (cCode P n false b) else .bad
 | _=>.bad
def cRes (P:Program)(n:Nat):List ResultVar->Option (List ARes)
 | []=>some []
 | .tmp t::l=>if t<n then(cRes P n l).map (.tmp t::·) else none
 | .cell a t::l=>match szOf P t,aggOf P t,cRes P n l with
  | some s,some g,some l=>if a<n then some (.cell a s g::l) else none
  | _,_,_=>none
def cFn (P:Program)(keep:Bool)(fn:Func):Option AFn :=
 match fn.body with
 | some b=>match cRes P fn.ntmps fn.results.toList with
  | some res=>if fn.name == "runtime.NumGoroutine" then none else some ⟨fn.ntmps,cCode P fn.ntmps true b,res,keep⟩
  | none=>none
 | none=>none
theorem cFn_inv {P:Program}{keep:Bool}{func:Func}{fn:AFn}(hc:cFn P keep func=some fn):∃b res,func.body=some b/\(func.name == "runtime.NumGoroutine")=false/\cRes P func.ntmps func.results.toList=some res/\fn=⟨func.ntmps,cCode P func.ntmps true b,res,keep⟩:=by
 unfold cFn at hc;split at hc
 ·rename_i b hb;split at hc
  ·rename_i res hr;split at hc
   ·cases hc
   ·rename_i hn;cases hc;exact⟨b,res,hb,by simpa using hn,hr,rfl⟩
  ·cases hc
 ·cases hc
end
section
structure Pl where
 c:Nat
 base:Nat
 lim:Nat
 own:Bool
abbrev Mp:=Nat->Option Pl
inductive VR (m:Mp):Value->Value->Prop
 | bool (b:Bool):VR m (.bool b) (.bool b)
 | int (k:IntKind) (n:Int):VR m (.int k n) (.int k n)
 | str (s:ByteArray):VR m (.string s) (.string s)
 | pnil:VR m (.pointer none) (.pointer none)
 | ptr {b o:Nat} {p:Pl} (h:m b=some p):VR m (.pointer (some ⟨b,o,none⟩)) (.pointer (some ⟨p.c,p.base+o,none⟩))
 | snil:VR m (.slice none 0 0) (.slice none 0 0)
 | sl {b o len es cap:Nat} {p:Pl} (h:m b=some p) (hl:len<=cap) (hc:p.own=true->o+cap*es<=p.lim):VR m (.slice (some ⟨b,o,none⟩) len es) (.slice (some ⟨p.c,p.base+o,none⟩) len cap)
 | sl0 {b o x es:Nat} {p:Pl} (h:m b=some p):VR m (.slice (some ⟨b,o,none⟩) 0 es) (.slice (some ⟨p.c,x,none⟩) 0 0)
 | mnil:VR m (.map none) (.map none)
 | map {b:Nat} {p:Pl} (h:m b=some p):VR m (.map (some b)) (.map (some p.c))
 | fnil:VR m .nilFunc .nilFunc
 | inil:VR m .nilIface .nilIface
 | fn (f:FuncId) {a b a' b':Array Value} (na:a.size=a'.size) (nb:b.size=b'.size) (ha:∀i,i<a.size->VR m (a.getD i undef) (a'.getD i undef))
   (hb:∀i,i<b.size->VR m (b.getD i undef) (b'.getD i undef)):VR m (.func (.func f) a b) (.func (.func f) a' b')
 | yl {l:Nat} {p:Pl} (h:m l=some p):VR m (.func (.yield l) #[] #[]) (.func (.yield p.c) #[] #[])
 | iface (t:TypeId) {x y:Value} (h:VR m x y):VR m (.iface t x) (.iface t y)
 | agg {xs ys:Array Value} (n:xs.size=ys.size) (h:∀i,i<xs.size->VR m (xs.getD i undef) (ys.getD i undef)):VR m (.agg xs) (.agg ys)
 | tup {xs ys:Array Value} (n:xs.size=ys.size) (h:∀i,i<xs.size->VR m (xs.getD i undef) (ys.getD i undef)):VR m (.tuple xs) (.tuple ys)
def Sub (m m':Mp):Prop:=∀b p,m b=some p->m' b=some p
theorem Sub.refl (m:Mp):Sub m m:=fun _ _ h=>h
theorem Sub.trans {a b c:Mp}(h:Sub a b)(k:Sub b c):Sub a c:=fun _ _ e=>k _ _ (h _ _ e)
theorem VR.mono {m m':Mp}(hs:Sub m m'){v v':Value}(h:VR m v v'):VR m' v v':=by
 induction h with
 | bool b=>exact .bool b
 | int k n=>exact .int k n
 | str s=>exact .str s
 | pnil=>exact .pnil
 | ptr h=>exact .ptr (hs _ _ h)
 | snil=>exact .snil
 | sl h hl hc=>exact .sl (hs _ _ h) hl hc
 | sl0 h=>exact .sl0 (hs _ _ h)
 | mnil=>exact .mnil
 | map h=>exact .map (hs _ _ h)
 | fnil=>exact .fnil
 | inil=>exact .inil
 | fn f na nb _ _ iha ihb=>exact .fn f na nb iha ihb
 | yl h=>exact .yl (hs _ _ h)
 | iface t _ ih=>exact .iface t ih
 | agg n _ ih=>exact .agg n ih
 | tup n _ ih=>exact .tup n ih
theorem VR.undef {m:Mp}:VR m undef undef:=.tup rfl (fun _ hi=>absurd hi (Nat.not_lt_zero _))
def LR (m:Mp)(xs ys:List Value):Prop:=xs.length=ys.length/\∀i,i<xs.length->VR m (xs.getD i undef) (ys.getD i undef)
theorem getD_toList (a:Array Value)(i:Nat):a.toList.getD i undef=a.getD i undef:=by simp[List.getD_eq_getElem?_getD,Array.getD_eq_getD_getElem?]
theorem LR.arr {m:Mp}{xs ys:Array Value}:LR m xs.toList ys.toList<->xs.size=ys.size/\∀i,i<xs.size->VR m (xs.getD i undef) (ys.getD i undef):=by
 unfold LR;simp only[getD_toList,Array.length_toList]
theorem LR.agg {m:Mp}{xs ys:Array Value}(h:LR m xs.toList ys.toList):VR m (.agg xs) (.agg ys):=.agg (LR.arr.1 h).1 (LR.arr.1 h).2
theorem LR.tup {m:Mp}{xs ys:Array Value}(h:LR m xs.toList ys.toList):VR m (.tuple xs) (.tuple ys):=.tup (LR.arr.1 h).1 (LR.arr.1 h).2
theorem LR.aggL {m:Mp}{xs ys:List Value}(h:LR m xs ys):VR m (.agg xs.toArray) (.agg ys.toArray):=LR.agg (by simpa using h)
theorem LR.tupL {m:Mp}{xs ys:List Value}(h:LR m xs ys):VR m (.tuple xs.toArray) (.tuple ys.toArray):=LR.tup (by simpa using h)
theorem LR.nil {m:Mp}:LR m [] []:=⟨rfl,fun _ hi=>absurd hi (Nat.not_lt_zero _)⟩
theorem LR.cons {m:Mp}{x y:Value}{xs ys:List Value}(h:VR m x y)(hs:LR m xs ys):LR m (x::xs) (y::ys):=by
 refine⟨by simp[hs.1],fun i hi=>?_⟩;cases i with
 | zero=>exact h
 | succ i=>exact hs.2 i (by simpa using hi)
theorem LR.head {m:Mp}{x y:Value}{xs ys:List Value}(h:LR m (x::xs) (y::ys)):VR m x y:=h.2 0 (by simp)
theorem LR.tail {m:Mp}{x y:Value}{xs ys:List Value}(h:LR m (x::xs) (y::ys)):LR m xs ys :=
 ⟨by simpa using h.1,fun i hi=>h.2 (i+1) (by simpa using hi)⟩
theorem LR.cases_cons {m:Mp}{x:Value}{xs ys:List Value}(h:LR m (x::xs) ys):∃y ys',ys=y::ys'/\VR m x y/\LR m xs ys':=by
 cases ys with
 | nil=>have:=h.1; simp at this
 | cons y ys=>exact⟨y,ys,rfl,h.head,h.tail⟩
theorem LR.cases_nil {m:Mp}{ys:List Value}(h:LR m [] ys):ys=[]:=by
 cases ys with
 | nil=>rfl
 | cons y ys=>have:=h.1; simp at this
theorem LR.mono {m m':Mp}(hs:Sub m m'){xs ys:List Value}(h:LR m xs ys):LR m' xs ys:=⟨h.1,fun i hi=>(h.2 i hi).mono hs⟩
theorem LR.append {m:Mp}{xs ys xs' ys':List Value}(h:LR m xs ys)(k:LR m xs' ys'):LR m (xs++xs') (ys++ys'):=by
 refine⟨by simp[h.1,k.1],fun i hi=>?_⟩
 by_cases hl:i<xs.length
 ·have h2:i<ys.length:=h.1▸hl;have:=h.2 i hl;simpa[List.getD_eq_getElem?_getD,List.getElem?_append_left,hl,h2] using this
 ·have h2:¬ i<ys.length:=h.1▸hl;have:=k.2 (i-xs.length) (by simp at hi; omega);rw[show(xs++xs').getD i Go.undef=xs'.getD (i-xs.length) Go.undef by simp[List.getD_eq_getElem?_getD,List.getElem?_append_right (Nat.le_of_not_lt hl)]];rw[show(ys++ys').getD i Go.undef=ys'.getD (i-ys.length) Go.undef by simp[List.getD_eq_getElem?_getD,List.getElem?_append_right (Nat.le_of_not_lt h2)]];rw[<- h.1]; exact this
theorem LR.take {m:Mp}{xs ys:List Value}(h:LR m xs ys)(n:Nat):LR m (xs.take n) (ys.take n):=by
 refine⟨by simp[h.1],fun i hi=>?_⟩;simp only[List.length_take] at hi;have:=h.2 i (by omega);simpa[List.getD_eq_getElem?_getD,List.getElem?_take,show i<n by omega] using this
theorem LR.drop {m:Mp}{xs ys:List Value}(h:LR m xs ys)(n:Nat):LR m (xs.drop n) (ys.drop n):=by
 refine⟨by simp[h.1],fun i hi=>?_⟩;simp only[List.length_drop] at hi;have:=h.2 (n+i) (by omega);simpa[List.getD_eq_getElem?_getD,List.getElem?_drop] using this
theorem LR.set {m:Mp}{xs ys:List Value}(h:LR m xs ys)(n:Nat){v v':Value}(hv:VR m v v'):LR m (xs.set n v) (ys.set n v'):=by
 refine⟨by simp[h.1],fun i hi=>?_⟩;simp only[List.length_set] at hi;have h2:i<ys.length:=h.1▸hi
 by_cases e:n=i
 ·subst e; simpa[List.getD_eq_getElem?_getD,hi,h2] using hv
 ·simpa[List.getD_eq_getElem?_getD,List.getElem?_set_ne e] using h.2 i hi
theorem LR.get? {m:Mp}{xs ys:List Value}(h:LR m xs ys){i:Nat}{v:Value}(hv:xs[i]?=some v):∃v',ys[i]?=some v'/\VR m v v':=by
 obtain⟨hi,rfl⟩:=List.getElem?_eq_some_iff.1 hv;have h2:i<ys.length:=h.1▸hi;refine⟨ys[i],by simp,?_⟩;simpa[List.getD_eq_getElem?_getD,hi,h2] using h.2 i hi
theorem VR.flatK {m:Mp}{v:Value}(h:flatK v=true):VR m v v:=by
 unfold Ab.flatK at h;split at h
 ·exact .bool _
 ·exact .int _ _
 ·exact .str _
 ·exact .pnil
 ·exact .snil
 ·exact .mnil
 ·exact .fnil
 ·exact .inil
 ·simp at h
theorem LR.flatK {m:Mp}{l:List Value}(h:l.all Ab.flatK=true):LR m l l:=by
 induction l with
 | nil=>exact .nil
 | cons x l ih =>
  simp only[List.all_cons,Bool.and_eq_true] at h;exact .cons (.flatK h.1) (ih h.2)
theorem VR.constK {m:Mp}{v:Value}(h:constK v=true):VR m v v:=by
 unfold Ab.constK at h;split at h
 ·exact LR.agg (LR.flatK h)
 ·simp only[beq_iff_eq] at h;exact .tup rfl (fun i hi=>by omega)
 ·exact .flatK h
theorem VR.flat1 {m m':Mp}{v v':Value}(h:VR m v v')(hf:flat1 v=true):VR m' v v':=by
 cases h<;>simp[Ab.flat1] at hf<;>constructor
theorem LR.flat1 {m m':Mp}{xs ys:List Value}(h:LR m xs ys)(hf:xs.all Ab.flat1=true):LR m' xs ys:=by
 refine⟨h.1,fun i hi=>(h.2 i hi).flat1 ?_⟩;rw[List.all_eq_true] at hf;exact hf _ (by simp[List.getD_eq_getElem?_getD,hi])
theorem VR.flatA {m m':Mp}{v v':Value}(h:VR m v v')(hf:flatA v=true):VR m' v v':=by
 unfold Ab.flatA at hf;split at hf
 ·cases h with
  | agg n h=>exact LR.agg (LR.flat1 (LR.arr.2 ⟨n,h⟩) hf)
 ·exact h.flat1 hf
theorem VR.flat {m m':Mp}{v v':Value}(h:VR m v v')(hf:flat v=true):VR m' v v':=by
 unfold Ab.flat at hf;split at hf
 ·cases h with
  | tup n h =>
   refine .tup n fun i hi=>(h i hi).flatA ?_;rw[List.all_eq_true] at hf;refine hf _ ?_;simp[Array.getD_eq_getD_getElem?,hi]
 ·exact h.flatA hf
theorem VR.cells {m:Mp}{v v':Value}(h:VR m v v'):LR m v.cells.toList v'.cells.toList:=by
 cases h with
 | agg n h=>exact LR.arr.2 ⟨n,h⟩
 | bool b=>exact .cons (.bool b) .nil
 | int k n=>exact .cons (.int k n) .nil
 | str s=>exact .cons (.str s) .nil
 | pnil=>exact .cons .pnil .nil
 | ptr h=>exact .cons (.ptr h) .nil
 | snil=>exact .cons .snil .nil
 | sl h hl hc=>exact .cons (.sl h hl hc) .nil
 | sl0 h=>exact .cons (.sl0 h) .nil
 | mnil=>exact .cons .mnil .nil
 | map h=>exact .cons (.map h) .nil
 | fnil=>exact .cons .fnil .nil
 | inil=>exact .cons .inil .nil
 | fn f na nb ha hb=>exact .cons (.fn f na nb ha hb) .nil
 | yl h=>exact .cons (.yl h) .nil
 | iface t h=>exact .cons (.iface t h) .nil
 | tup n h=>exact .cons (.tup n h) .nil
theorem VR.single {m:Mp}{v v':Value}(h:VR m v v'):single v'=single v:=by cases h<;>rfl
def CellsR (m:Mp)(w:World)(p:Pl)(cs:List Value):Prop :=
 (∀i,i<cs.length->∃v',w.cell? ⟨p.c,p.base+i,none⟩=some v'/\VR m (cs.getD i undef) v') /\
 (p.own=true->cs.length<=p.lim/\∀i,i<p.lim->(∃v',w.cell? ⟨p.c,p.base+i,none⟩=some v')/\w.frozen? ⟨p.c,p.base+i,none⟩=false)
def MapR (m:Mp)(w:World)(p:Pl)(es:List (Value×Value)):Prop :=
 p.own=true/\∃(es':Array MapEntry) (ck:Nat),w.heap[p.c]?=some (.map es' ck)/\es'.size=es.length /\
  (∀(i:Nat) (k v:Value),es[i]?=some (k,v)->∃e',es'[i]?=some e'/\VR m k e'.key/\VR m v e'.val)/\MapKept.Stamped es' ck
inductive SR:RS->LoopState->Option Code->Prop
 | ready:SR .ready .ready none
 | busy:SR .busy .busy none
 | exit (i:Nat):SR (.over (.exit i)) .done (some (.exit i))
 | ret:SR (.over .ret) .done (some .ret)
def BR (m:Mp)(w:World)(p:Pl):Blk->Prop
 | .cells own cs=>own=p.own/\CellsR m w p cs
 | .dead=>True
 | .map es=>MapR m w p es
 | .iter s pos=>p.own=true/\p.base=0/\w.heap[p.c]?=some (.stringIter s pos)
 | .loop n f ps ca cb aa ba st=>p.own=true/\aa=cCode Go.Proofs.Tryz.prog n false ca/\ba=cCode Go.Proofs.Tryz.prog n false cb/\(∀t∈ps,t<n)/\∃tmps fn df s' pd,
   w.heap[p.c]?=some (.loop { state:=s',pending:=pd,fn:=fn,tmps:=tmps,params:=ps.toArray,assign:=ca,body:=cb,defers:=df })/\SR st s' pd/\tmps.size=n/\∀t,t<n->VR m (f.rd t) (tmps.getD t undef)
theorem CellsR.mono {m m':Mp}{w:World}{p:Pl}{cs:List Value}(hs:Sub m m')(h:CellsR m w p cs):CellsR m' w p cs :=
 ⟨fun i hi=>let⟨v',h1,h2⟩:=h.1 i hi; ⟨v',h1,h2.mono hs⟩,h.2⟩
theorem BR.mono {m m':Mp}{w:World}{p:Pl}{k:Blk}(hs:Sub m m')(h:BR m w p k):BR m' w p k:=by
 cases k with
 | cells own cs=>exact⟨h.1,h.2.mono hs⟩
 | dead=>trivial
 | map es =>
  obtain⟨ho,es',ck,h1,h2,h3,h4⟩:=h;exact⟨ho,es',ck,h1,h2,fun i k v e=>let⟨e',a,b,c⟩:=h3 i k v e; ⟨e',a,b.mono hs,c.mono hs⟩,h4⟩
 | iter s pos=>exact h
 | loop n f ps ca cb aa ba st =>
  obtain⟨h1,h2,h3,h4,tmps,fn,df,s',pd,h5,h6,h7,h8⟩:=h;exact⟨h1,h2,h3,h4,tmps,fn,df,s',pd,h5,h6,h7,fun t ht=>(h8 t ht).mono hs⟩
theorem BR.same {m:Mp}{w w':World}{p:Pl}{k:Blk}(h:BR m w p k)(he:w'.heap[p.c]?=w.heap[p.c]?):BR m w' p k:=by
 have hc:∀o,w'.cell? ⟨p.c,o,none⟩=w.cell? ⟨p.c,o,none⟩:=fun o=>by simp[World.cell?,he]
 have hf:∀o,w'.frozen? ⟨p.c,o,none⟩=w.frozen? ⟨p.c,o,none⟩:=fun o=>by simp[World.frozen?,he]
 cases k with
 | cells own cs=>exact⟨h.1,by unfold CellsR; simp only[hc,hf]; exact h.2⟩
 | dead=>trivial
 | map es =>
  obtain⟨ho,es',ck,h1,h2⟩:=h;exact⟨ho,es',ck,he.trans h1,h2⟩
 | iter s pos=>exact⟨h.1,h.2.1,he.trans h.2.2⟩
 | loop n f ps ca cb aa ba st =>
  obtain⟨h1,h2,h3,h4,tmps,fn,df,s',pd,h5,h6⟩:=h;exact⟨h1,h2,h3,h4,tmps,fn,df,s',pd,he.trans h5,h6⟩
class Start where
 w:World
variable [Start]
def Gl (m:Mp)(w:World):Prop:=Start.w.heap.size<=w.heap.size/\(∀c,c<Start.w.heap.size->w.heap[c]?=Start.w.heap[c]?)/\∀b p,m b=some p->p.own=true->Start.w.heap.size<=p.c
theorem Gl.of {m m':Mp}{w w':World}(G:Gl m w)(hs:w.heap.size<=w'.heap.size)(hk:∀c,c<w.heap.size->(∀b p,m b=some p->p.own=true->p.c≠c)->w'.heap[c]?=w.heap[c]?)
  (hm:∀b p,m' b=some p->p.own=true->w.heap.size<=p.c\/∃b0 p0,m b0=some p0/\p0.own=true/\p0.c=p.c):Gl m' w':=by
 refine⟨Nat.le_trans G.1 hs,fun c hc=>?_,fun b p e ho=>?_⟩
 ·exact(hk c (Nat.lt_of_lt_of_le hc G.1) fun b p e ho hq=>by have:=G.2.2 b p e ho; omega).trans (G.2.1 c hc)
 ·rcases hm b p e ho with h | ⟨b0,p0,e0,h0,hq⟩
  ·exact Nat.le_trans G.1 h
  ·rw[<- hq]; exact G.2.2 b0 p0 e0 h0
structure HR (m:Mp)(h:Hp)(w:World):Prop where
 gl:Gl m w
 dom:∀b p,m b=some p->b<h.length/\p.c<w.heap.size
 blk:∀b p k,m b=some p->h[b]?=some k->BR m w p k
 inj:∀b b' p p',m b=some p->m b'=some p'->h[b]?≠some .dead->h[b']?≠some .dead->p.c=p'.c->p.own=true->b=b'
 off:∀b p,m b=some p->p.own=true->p.base=0
def cut (l:Nat)(m:Mp):Mp:=fun b=>if b<l then m b else none
def Low (l:Nat)(m:Mp)(h:Hp)(w:World):Prop:=∀b p k,b<l->m b=some p->h[b]?=some k->BR (cut l m) w p k
structure Step (lim:Nat)(m:Mp)(h:Hp)(w:World)(m':Mp)(h':Hp)(w':World):Prop where
 ext:Sub m m'
 new:∀b p,m' b=some p->m b=none->h.length<=b/\(w.heap.size<=p.c\/∃b0 p0,m b0=some p0/\p0.own=true/\p0.c=p.c)
 len:h.length<=h'.length
 af:∀b,b<h.length->m b=none->h'[b]?=h[b]?
 cf:∀c,c<w.heap.size->(∀b p,m b=some p->p.own=true->p.c≠c)->w'.heap[c]?=w.heap[c]?
 size:w.heap.size<=w'.heap.size
 os:w'.os=w.os
 tape:w'.tape=w.tape
 output:w'.output=w.output
 low:∀l,l<=lim->Low l m h w->Low l m' h' w'
theorem Step.refl (lim:Nat)(m:Mp)(h:Hp)(w:World):Step lim m h w m h w :=
 ⟨Sub.refl m,fun b p e e'=>by rw[e] at e'; exact absurd e' (by simp),Nat.le_refl _,fun _ _ _=>rfl,fun _ _ _=>rfl,Nat.le_refl _,rfl,rfl,rfl,fun _ _ h=>h⟩
theorem Step.trans {lim:Nat}{m m1 m2:Mp}{h h1 h2:Hp}{w w1 w2:World}(s:Step lim m h w m1 h1 w1)(t:Step lim m1 h1 w1 m2 h2 w2):Step lim m h w m2 h2 w2:=by
 refine⟨s.ext.trans t.ext,fun b p e e'=>?_,Nat.le_trans s.len t.len,fun b hb e=>?_,fun c hc hn=>?_,Nat.le_trans s.size t.size,t.os.trans s.os,t.tape.trans s.tape,t.output.trans s.output,fun l hl hL=>t.low l hl (s.low l hl hL)⟩
 ·cases e1:m1 b with
  | some q =>
   have:=t.ext _ _ e1;rw[e] at this; cases this;exact s.new b p e1 e'
  | none =>
   obtain⟨n1,n2⟩:=t.new b p e e1;refine⟨Nat.le_trans s.len n1,?_⟩;rcases n2 with n2 | ⟨b0,p0,g1,g2,g3⟩
   ·exact Or.inl (Nat.le_trans s.size n2)
   ·cases e0:m b0 with
    | some q =>
     have:=s.ext _ _ e0;rw[g1] at this; cases this;exact Or.inr ⟨b0,p0,e0,g2,g3⟩
    | none =>
     obtain⟨-,k⟩:=s.new b0 p0 g1 e0;rcases k with k | ⟨b1,p1,f1,f2,f3⟩
     ·exact Or.inl (g3▸k)
     ·exact Or.inr ⟨b1,p1,f1,f2,f3.trans g3⟩
 ·cases e1:m1 b with
  | some q =>
   have:=(s.new b q e1 e).1;omega
  | none=>exact(t.af b (Nat.lt_of_lt_of_le hb s.len) e1).trans (s.af b hb e)
 ·refine(t.cf c (Nat.lt_of_lt_of_le hc s.size) fun b p e ho ec=>?_).trans (s.cf c hc hn);cases e0:m b with
  | some q =>
   have:=s.ext _ _ e0;rw[e] at this; cases this;exact hn b p e0 ho ec
  | none =>
   rcases(s.new b p e e0).2 with k | ⟨b1,p1,f1,f2,f3⟩
   ·omega
   ·exact hn b1 p1 f1 f2 (f3.trans ec)
end
section
variable [Start]
variable {P:Program}{lim:Nat}{o:Oper}{ρ ρ':Operand->Value}{m:Mp}{h h':Hp}{w:World}{v:Value}
def Done (P:Program)(lim:Nat)(o:Oper)(ρ':Operand->Value)(m:Mp)(h:Hp)(w:World)(v:Value)(h':Hp):Prop :=
 ∃nx v' w' m',(execOp ρ' o).run P w=.ok nx w'/\(nx=.value v'\/(nx=.skip/\v'=undef))/\VR m' v v'/\HR m' h' w'/\Step lim m h w m' h' w'
theorem Done.pure {v':Value}(H:HR m h w)(hr:(execOp ρ' o).run P w=.ok (.value v') w)(hv:VR m v v'):Done P lim o ρ' m h w v h :=
 ⟨_,v',w,m,hr,Or.inl rfl,hv,H,Step.refl _ _ _ _⟩
theorem runV {s:Sem Value}{v':Value}{w w':World}(h:s.run P w=.ok v' w'):(do Pure.pure (Next.value (<- s)):Sem Next).run P w=.ok (.value v') w':=by
 simp[h,Result.andThen]
theorem VR.bool' {m:Mp}{b:Bool}{v':Value}(h:VR m (.bool b) v'):v'=.bool b:=by cases h; rfl
theorem VR.int' {m:Mp}{k:IntKind}{n:Int}{v':Value}(h:VR m (.int k n) v'):v'=.int k n:=by cases h; rfl
theorem VR.str' {m:Mp}{s:ByteArray}{v':Value}(h:VR m (.string s) v'):v'=.string s:=by cases h; rfl
theorem sim_mov {x:Operand}(hop:o.op=.move x\/o.op=.assign x)(H:HR m h w)(hρ:∀x∈o.op.operands,VR m (ρ x) (ρ' x))
  (hr:(AOp.mov x).run lim ρ h=some (v,h')):Done P lim o ρ' m h w v h':=by
 simp only[AOp.run,Option.some.injEq,Prod.mk.injEq] at hr;obtain⟨rfl,rfl⟩:=hr;have hx:x∈o.op.operands:=by rcases hop with e | e<;>simp[e,Op.operands]
 refine Done.pure (v':=ρ' x) H ?_ (hρ x hx);rcases hop with e | e<;>simp[execOp,e]
theorem sim_pick {c a b:Operand}(hop:o.op=.pick c a b)(H:HR m h w)(hρ:∀x∈o.op.operands,VR m (ρ x) (ρ' x))
  (hr:(AOp.pick c a b).run lim ρ h=some (v,h')):Done P lim o ρ' m h w v h':=by
 rw[hop] at hρ;simp only[Op.operands,List.mem_toArray,List.mem_cons,List.not_mem_nil,or_false] at hρ;have h1:=hρ c (by simp);simp only[AOp.run] at hr;split at hr
 ·rename_i t e;rw[e] at h1;simp only[Option.some.injEq,Prod.mk.injEq] at hr;obtain⟨rfl,rfl⟩:=hr;refine Done.pure (v':=if t then ρ' a else ρ' b) H ?_ ?_
  ·simp[execOp,hop,h1.bool',asBool]
  ·cases t
   ·exact hρ b (by simp)
   ·exact hρ a (by simp)
 ·cases hr
theorem abin_run {op:BinOp}{t:TypeId}{a b v:Value}(hr:abin op a b=some v)(w:World):(binOp op t a b).run P w=.ok v w:=by
 unfold abin at hr;split at hr
 ·rename_i k x k' y;split at hr
  ·split at hr
   ·cases hr
   ·rename_i hy;cases hr;simp[binOp,Op.shift,hy]
  ·split at hr
   ·cases hr
   ·rename_i hy;cases hr;simp[binOp,Op.shift,hy]
  all_goals
   split at hr
   ·rename_i hk
    first
     | (split at hr
        ·cases hr
        ·rename_i hy;cases hr;subst hk;simp[binOp,Op.intDiv,hy])
     | (cases hr
        subst hk;simp[binOp,Op.intArith,Op.intBits,Op.intCmp])
   ·cases hr
 ·rename_i x y;split at hr
  ·split at hr
   ·cases hr
   ·rename_i hs;cases hr;simp only[binOp,Op.stringOp];rw[if_neg (by simpa[IntKind.max,IntKind.bits,IntKind.signed] using hs)];rfl
  all_goals first
   | (cases hr; done)
   | (cases hr; simp[binOp,Op.stringOp])
 ·cases hr
theorem eqGuard_int {op:BinOp}{t:TypeId}{x y:Operand}{k:IntKind}{n:Int}{b:Value}:eqGuard op t x y (.int k n) b=pure ():=by
 unfold eqGuard; split<;>rfl
theorem eqGuard_str {op:BinOp}{t:TypeId}{x y:Operand}{s:ByteArray}{b:Value}:eqGuard op t x y (.string s) b=pure ():=by
 unfold eqGuard; split<;>rfl
theorem sim_bin {op:BinOp}{t yt:TypeId}{x y:Operand}(hop:o.op=.binOp op t x y yt)(H:HR m h w)(hρ:∀x∈o.op.operands,VR m (ρ x) (ρ' x))
  (hr:(AOp.bin op x y).run lim ρ h=some (v,h')):Done P lim o ρ' m h w v h':=by
 rw[hop] at hρ;simp only[Op.operands,List.mem_toArray,List.mem_cons,List.not_mem_nil,or_false] at hρ;have h1:=hρ x (by simp);have h2:=hρ y (by simp);simp only[AOp.run,Option.map_eq_some_iff,Prod.mk.injEq] at hr;obtain⟨u,hb,rfl,rfl⟩:=hr
 have hu:(∃k a k' b,ρ x=.int k a/\ρ y=.int k' b)\/(∃a b,ρ x=.string a/\ρ y=.string b):=by
  unfold abin at hb;split at hb
  ·rename_i e1 e2; exact Or.inl ⟨_,_,_,_,e1,e2⟩
  ·rename_i e1 e2; exact Or.inr ⟨_,_,e1,e2⟩
  ·cases hb
 have hv:VR m u u:=by
  unfold abin at hb
  repeat' split at hb
  all_goals first
   | (cases hb; done)
   | (cases hb; constructor)
 refine Done.pure (v':=u) H ?_ hv;rcases hu with⟨k,a,k',b,e1,e2⟩ | ⟨a,b,e1,e2⟩
 ·rw[e1] at h1 hb; rw[e2] at h2 hb;simp only[execOp,hop,h1.int',h2.int',eqGuard_int,pure_bind];exact runV (abin_run hb w)
 ·rw[e1] at h1 hb; rw[e2] at h2 hb;simp only[execOp,hop,h1.str',h2.str',eqGuard_str,pure_bind];exact runV (abin_run hb w)
theorem sim_un {op:UnOp}{t:TypeId}{x:Operand}(hop:o.op=.unOp op t x)(H:HR m h w)(hρ:∀x∈o.op.operands,VR m (ρ x) (ρ' x))
  (hr:(AOp.un op x).run lim ρ h=some (v,h')):Done P lim o ρ' m h w v h':=by
 rw[hop] at hρ;simp only[Op.operands,List.mem_toArray,List.mem_cons,List.not_mem_nil,or_false] at hρ;have h1:=hρ x rfl;simp only[AOp.run,Option.map_eq_some_iff,Prod.mk.injEq] at hr;obtain⟨u,hb,rfl,rfl⟩:=hr;unfold aun at hb;split at hb
 ·rename_i k n e;rw[e] at h1;cases hb;refine Done.pure H ?_ (.int _ _);simp only[execOp,hop,h1.int'];exact runV (by simp[Op.unary,Op.intArith])
 ·rename_i k n e;rw[e] at h1;cases hb;refine Done.pure H ?_ (.int _ _);simp only[execOp,hop,h1.int'];exact runV (by simp[Op.unary,Op.intBits])
 ·rename_i b e;rw[e] at h1;cases hb;refine Done.pure H ?_ (.bool _);simp only[execOp,hop,h1.bool'];exact runV (by simp[Op.unary])
 ·cases hb
theorem sim_nilc {x:Operand}(hop:o.op=.nilCheck x)(H:HR m h w)(hρ:∀x∈o.op.operands,VR m (ρ x) (ρ' x))
  (hr:(AOp.nilc x).run lim ρ h=some (v,h')):Done P lim o ρ' m h w v h':=by
 rw[hop] at hρ;simp only[Op.operands,List.mem_toArray,List.mem_cons,List.not_mem_nil,or_false] at hρ;have h1:=hρ x rfl;simp only[AOp.run] at hr;split at hr
 ·rename_i a e;rw[e] at h1;cases hr;refine Done.pure (v':=ρ' x) H ?_ h1;obtain⟨u,hu⟩:∃u,ρ' x=u:=⟨_,rfl⟩;rw[hu] at h1 ⊢;cases h1;simp[execOp,hop,hu]
 ·rename_i g f c e;rw[e] at h1;cases hr;refine Done.pure (v':=ρ' x) H ?_ h1;obtain⟨u,hu⟩:∃u,ρ' x=u:=⟨_,rfl⟩;rw[hu] at h1 ⊢;cases h1;simp[execOp,hop,hu]
 ·cases hr
theorem sim_ifc {t:TypeId}{x:Operand}(hop:o.op=.makeInterface t x)(hc:cOp P o.op=some (.ifc t x))(H:HR m h w)(hρ:∀x∈o.op.operands,VR m (ρ x) (ρ' x))
  (hr:(AOp.ifc t x).run lim ρ h=some (v,h')):Done P lim o ρ' m h w v h':=by
 rw[hop] at hρ hc;simp only[Op.operands,List.mem_toArray,List.mem_cons,List.not_mem_nil,or_false] at hρ;have h1:=hρ x rfl;simp only[AOp.run,Option.some.injEq,Prod.mk.injEq] at hr;obtain⟨rfl,rfl⟩:=hr;refine Done.pure (v':=.iface t (ρ' x)) H ?_ (.iface t h1);simp only[execOp,hop];refine runV ?_;simp only[cOp] at hc;split at hc
 ·cases hc
 ·rename_i d hd e;simp only[Instr.makeInterface,Sem.run_bind,run_underlying e,Result.andThen_ok];rfl
 ·cases hc
theorem LR.map {m:Mp}{l:List Operand}(hρ:∀x∈l,VR m (ρ x) (ρ' x)):LR m (l.map ρ) (l.map ρ'):=by
 induction l with
 | nil=>exact .nil
 | cons x l ih=>exact .cons (hρ x (by simp)) (ih fun y hy=>hρ y (by simp[hy]))
theorem sim_fn {f:FuncId}{a b:Array Operand}(hop:o.op=.makeFunc (.func f) a b)(H:HR m h w)(hρ:∀x∈o.op.operands,VR m (ρ x) (ρ' x))
  (hr:(AOp.fn f a.toList b.toList).run lim ρ h=some (v,h')):Done P lim o ρ' m h w v h':=by
 rw[hop] at hρ;simp only[Op.operands,Array.mem_append] at hρ;simp only[AOp.run,Option.some.injEq,Prod.mk.injEq] at hr;obtain⟨rfl,rfl⟩:=hr;have h1:LR m (a.toList.map ρ) (a.toList.map ρ'):=.map fun x hx=>hρ x (Or.inl (by simpa using hx));have h2:LR m (b.toList.map ρ) (b.toList.map ρ'):=.map fun x hx=>hρ x (Or.inr (by simpa using hx));refine Done.pure (v':=.func (.func f) (a.map ρ') (b.map ρ')) H ?_ ?_
 ·simp only[execOp,hop];exact runV (by simp[Instr.makeFunc])
 ·have e1:LR m (a.toList.map ρ).toArray.toList (a.map ρ').toList:=by simpa using h1
  have e2:LR m (b.toList.map ρ).toArray.toList (b.map ρ').toList:=by simpa using h2
  exact .fn f (LR.arr.1 e1).1 (LR.arr.1 e2).1 (LR.arr.1 e1).2 (LR.arr.1 e2).2
theorem sim_ext {t:Operand}{i:Nat}(hop:o.op=.extract t i)(H:HR m h w)(hρ:∀x∈o.op.operands,VR m (ρ x) (ρ' x))
  (hr:(AOp.ext t i).run lim ρ h=some (v,h')):Done P lim o ρ' m h w v h':=by
 rw[hop] at hρ;simp only[Op.operands,List.mem_toArray,List.mem_cons,List.not_mem_nil,or_false] at hρ;have h1:=hρ t rfl;simp only[AOp.run] at hr;split at hr
 ·rename_i vs e;rw[e] at h1;generalize hu:ρ' t=u at h1;cases h1 with
  | tup n hh =>
   rename_i ys;simp only[Option.map_eq_some_iff,Prod.mk.injEq] at hr;obtain⟨x,hx,rfl,rfl⟩:=hr;obtain⟨hi,rfl⟩:=Array.getElem?_eq_some_iff.1 hx;have h2:=hh i hi;have hi':i<ys.size:=n▸hi;simp only[Array.getD_eq_getD_getElem?,hi,hi',Array.getElem?_eq_getElem,Option.getD_some] at h2;refine Done.pure (v':=ys[i]) H ?_ h2;simp only[execOp,hop,hu];exact runV (by simp[Instr.extract,hi'])
 ·cases hr
end
section
variable [Start]
variable {P:Program}{lim:Nat}{o:Oper}{ρ ρ':Operand->Value}{m:Mp}{h h':Hp}{w:World}{v:Value}
theorem run_asIntOf (k:IntKind)(n:Int)(w:World):(asIntOf (.int k n)).run P w=.ok (k,n) w:=rfl
theorem run_sizeOf' {t:TypeId}{n:Nat}(h:szOf P t=some n)(w:World):(sizeOf t).run P w=.ok n w:=by
 unfold szOf at h;simp only[Option.map_eq_some_iff] at h;obtain⟨i,hi,rfl⟩:=h;simp[sizeOf,typeInfo,hi]
theorem run_isAgg' {t:TypeId}{g:Bool}(h:aggOf P t=some g)(w:World):(isAgg t).run P w=.ok g w:=by
 unfold aggOf at h;simp only[Option.map_eq_some_iff] at h;obtain⟨d,hd,rfl⟩:=h;simp only[isAgg,Sem.run_bind,run_underlying hd,Result.andThen_ok];cases d<;>rfl
theorem add_lit' (b o n:Nat):(⟨b,o,none⟩:Addr).add n=⟨b,o+n,none⟩:=by unfold Addr.add; split<;>simp_all
theorem sim_off {t:TypeId}{x:Operand}{i k:Nat}(hop:o.op=.fieldAddr t x i)(hc:cOp P o.op=some (.off k x))(H:HR m h w)(hρ:∀x∈o.op.operands,VR m (ρ x) (ρ' x))
  (hr:(AOp.off k x).run lim ρ h=some (v,h')):Done P lim o ρ' m h w v h':=by
 rw[hop] at hρ hc;simp only[Op.operands,List.mem_toArray,List.mem_cons,List.not_mem_nil,or_false] at hρ;have h1:=hρ x rfl;simp only[AOp.run] at hr;split at hr
 ·rename_i b o' e;rw[e] at h1;cases hr;obtain⟨u,hu⟩:∃u,ρ' x=u:=⟨_,rfl⟩;rw[hu] at h1;cases h1 with
  | ptr hm =>
   rename_i p;refine Done.pure (v':=.pointer (some ⟨p.c,p.base+(o'+k),none⟩)) H ?_ (.ptr hm);simp only[execOp,hop,hu];refine runV ?_;simp only[cOp] at hc;split at hc
   ·rename_i fs hfs;split at hc
    ·rename_i f hf;split at hc
     ·rename_i z hz;simp only[Option.some.injEq,AOp.off.injEq,and_true] at hc;subst hc;simp only[Instr.fieldAt,Sem.run_bind,run_underlying hfs,Result.andThen_ok,hf,Instr.sureAddr,fieldPlace,run_sizeOf' hz,Sem.run_pure,add_lit',Nat.add_one_ne_zero,if_false,Nat.add_assoc]
     ·cases hc
    ·cases hc
   ·cases hc
 ·cases hr
theorem sim_ixA {t:TypeId}{x i:Operand}{len es:Nat}(hop:o.op=.indexAddr t x i)(hc:cOp P o.op=some (.ixA len es x i))(H:HR m h w)(hρ:∀x∈o.op.operands,VR m (ρ x) (ρ' x))
  (hr:(AOp.ixA len es x i).run lim ρ h=some (v,h')):Done P lim o ρ' m h w v h':=by
 rw[hop] at hρ hc;simp only[Op.operands,List.mem_toArray,List.mem_cons,List.not_mem_nil,or_false] at hρ;have h1:=hρ x (Or.inl rfl);have h2:=hρ i (Or.inr rfl);simp only[AOp.run] at hr;split at hr
 ·rename_i b o' k n e e2;rw[e] at h1; rw[e2] at h2;split at hr
  ·rename_i hn;cases hr;obtain⟨u,hu⟩:∃u,ρ' x=u:=⟨_,rfl⟩;rw[hu] at h1;cases h1 with
   | ptr hm =>
    rename_i p;refine Done.pure (v':=.pointer (some ⟨p.c,p.base+(o'+n.toNat*es),none⟩)) H ?_ (.ptr hm);simp only[execOp,hop,hu,h2.int'];refine runV ?_;simp only[cOp] at hc;split at hc
    ·rename_i n' e' hfs;split at hc
     ·rename_i z hz;simp only[Option.some.injEq,AOp.ixA.injEq,and_true] at hc;obtain⟨rfl,rfl⟩:=hc;simp only[Instr.indexAt,Sem.run_bind,run_underlying hfs,Result.andThen_ok,run_asIntOf,Instr.sureAddr,run_sizeOf' hz,Sem.run_pure,add_lit',hn,and_self,if_true,Nat.add_assoc]
     ·cases hc
    ·split at hc<;>simp at hc
    ·cases hc
  ·cases hr
 ·cases hr
theorem sim_ixS {t:TypeId}{x i:Operand}{es:Nat}(hop:o.op=.indexAddr t x i)(hc:cOp P o.op=some (.ixS es x i))(H:HR m h w)(hρ:∀x∈o.op.operands,VR m (ρ x) (ρ' x))
  (hr:(AOp.ixS es x i).run lim ρ h=some (v,h')):Done P lim o ρ' m h w v h':=by
 rw[hop] at hρ hc;simp only[Op.operands,List.mem_toArray,List.mem_cons,List.not_mem_nil,or_false] at hρ;have h1:=hρ x (Or.inl rfl);have h2:=hρ i (Or.inr rfl);simp only[AOp.run] at hr;split at hr
 ·rename_i b o' len e' k n e e2;rw[e] at h1; rw[e2] at h2;split at hr
  ·rename_i hn;obtain⟨rfl,hn0,hn1⟩:=hn;cases hr;obtain⟨u,hu⟩:∃u,ρ' x=u:=⟨_,rfl⟩;rw[hu] at h1;cases h1 with
   | sl hm hl hcc =>
    rename_i cap p;refine Done.pure (v':=.pointer (some ⟨p.c,p.base+(o'+n.toNat*e'),none⟩)) H ?_ (.ptr hm);simp only[execOp,hop,hu,h2.int'];refine runV ?_;simp only[cOp] at hc;split at hc
    ·split at hc<;>simp at hc
    ·rename_i e3 hfs;split at hc
     ·rename_i z hz;simp only[Option.some.injEq,AOp.ixS.injEq,and_true] at hc;subst hc;simp only[Instr.indexAt,Sem.run_bind,run_underlying hfs,Result.andThen_ok,run_asIntOf,run_sizeOf' hz,Sem.run_pure,add_lit',hn0,hn1,and_self,if_true,Nat.add_assoc]
     ·cases hc
    ·cases hc
   | sl0 hm=>simp at hn1; omega
  ·cases hr
 ·cases hr
theorem sim_chS {t:TypeId}{x i:Operand}(hop:o.op=.index t x i)(hc:cOp P o.op=some (.chS x i))(H:HR m h w)(hρ:∀x∈o.op.operands,VR m (ρ x) (ρ' x))
  (hr:(AOp.chS x i).run lim ρ h=some (v,h')):Done P lim o ρ' m h w v h':=by
 rw[hop] at hρ hc;simp only[Op.operands,List.mem_toArray,List.mem_cons,List.not_mem_nil,or_false] at hρ;have h1:=hρ x (Or.inl rfl);have h2:=hρ i (Or.inr rfl);simp only[AOp.run] at hr;split at hr
 ·rename_i s k n e e2;rw[e] at h1; rw[e2] at h2;split at hr
  ·rename_i hn;simp only[Option.map_eq_some_iff,Prod.mk.injEq] at hr;obtain⟨b,hb,rfl,rfl⟩:=hr;refine Done.pure (v':=.int .u8 b.toNat) H ?_ (.int _ _);simp only[execOp,hop,h1.str',h2.int'];refine runV ?_;simp only[cOp] at hc;split at hc
   ·rename_i hfs;simp only[Instr.index,Sem.run_bind,run_underlying hfs,Result.andThen_ok,run_asIntOf,hn,if_true,hb];rfl
   ·split at hc<;>simp at hc
   ·cases hc
  ·cases hr
 ·cases hr
theorem run_part {t:TypeId}{g:Bool}{n off:Nat}{cs:Array Value}{u:Value}(hg:aggOf P t=some g)(hn:szOf P t=some n)
  (hu:(if g then some (.agg (cs.extract off (off+n))) else cs[off]?)=some u)(w:World):(part t cs off).run P w=.ok u w:=by
 unfold part;simp only[Sem.run_bind,run_isAgg' hg,Result.andThen_ok];cases g with
 | true =>
  simp only[if_true,Option.some.injEq] at hu;subst hu;simp only[if_true,Sem.run_bind,run_sizeOf' hn,Result.andThen_ok];rfl
 | false =>
  simp only[Bool.false_eq_true,if_false] at hu;simp only[Bool.false_eq_true,if_false,hu];rfl
theorem LR.extract {m:Mp}{xs ys:Array Value}(h:LR m xs.toList ys.toList)(a b:Nat):VR m (.agg (xs.extract a b)) (.agg (ys.extract a b)):=by
 refine LR.agg ?_;rw[Array.toList_extract,Array.toList_extract,List.extract_eq_take_drop,List.extract_eq_take_drop];exact(h.drop a).take _
theorem VR.part {m:Mp}{xs ys:Array Value}{g:Bool}{off n:Nat}{u:Value}(hh:LR m xs.toList ys.toList)
  (hu:(if g then some (.agg (xs.extract off (off+n))) else xs[off]?)=some u):∃u',(if g then some (.agg (ys.extract off (off+n))) else ys[off]?)=some u'/\VR m u u':=by
 cases g with
 | true =>
  simp only[if_true,Option.some.injEq] at hu ⊢;subst hu;exact⟨_,rfl,hh.extract _ _⟩
 | false =>
  simp only[Bool.false_eq_true,if_false] at hu ⊢;obtain⟨u',h1,h2⟩:=hh.get? (i:=off) (v:=u) (by simpa using hu);exact⟨u',by simpa using h1,h2⟩
theorem sim_el {t:TypeId}{x i:Operand}{len es:Nat}{g:Bool}(hop:o.op=.index t x i)(hc:cOp P o.op=some (.el len es g x i))(H:HR m h w)(hρ:∀x∈o.op.operands,VR m (ρ x) (ρ' x))
  (hr:(AOp.el len es g x i).run lim ρ h=some (v,h')):Done P lim o ρ' m h w v h':=by
 rw[hop] at hρ hc;simp only[Op.operands,List.mem_toArray,List.mem_cons,List.not_mem_nil,or_false] at hρ;have h1:=hρ x (Or.inl rfl);have h2:=hρ i (Or.inr rfl);simp only[AOp.run] at hr;split at hr
 ·rename_i cs k n e e2;rw[e] at h1; rw[e2] at h2;split at hr
  ·rename_i hn;obtain⟨u,hu⟩:∃u,ρ' x=u:=⟨_,rfl⟩;rw[hu] at h1;cases h1 with
   | agg nn hh =>
    rename_i ys;have hL:LR m cs.toList ys.toList:=LR.arr.2 ⟨nn,hh⟩
    have hq:(if g then some (Value.agg (cs.extract (n.toNat*es) (n.toNat*es+es))) else cs[n.toNat*es]?)=some v/\h'=h:=by
     cases g<;>simp at hr ⊢
     ·obtain⟨a,b,c,d⟩:=hr; subst c; exact⟨b,d.symm⟩
     ·exact⟨hr.1,hr.2.symm⟩
    obtain⟨hq,rfl⟩:=hq;obtain⟨u',hu',hv⟩:=VR.part hL hq;refine Done.pure (v':=u') H ?_ hv;simp only[execOp,hop,hu,h2.int'];refine runV ?_;simp only[cOp] at hc;split at hc
    ·cases hc
    ·rename_i n' e' hfs;split at hc
     ·rename_i z g' hz hg';simp only[Option.some.injEq,AOp.el.injEq,and_true] at hc;obtain⟨rfl,rfl,rfl⟩:=hc;simp only[Instr.index,Sem.run_bind,run_underlying hfs,Result.andThen_ok,run_asIntOf,hn,and_self,if_true,run_sizeOf' hz,run_part hg' hz hu']
     ·cases hc
    ·cases hc
  ·cases hr
 ·cases hr
theorem sim_fld {t:TypeId}{x:Operand}{i off n:Nat}{g:Bool}(hop:o.op=.field t x i)(hc:cOp P o.op=some (.fld off n g x))(H:HR m h w)(hρ:∀x∈o.op.operands,VR m (ρ x) (ρ' x))
  (hr:(AOp.fld off n g x).run lim ρ h=some (v,h')):Done P lim o ρ' m h w v h':=by
 rw[hop] at hρ hc;simp only[Op.operands,List.mem_toArray,List.mem_cons,List.not_mem_nil,or_false] at hρ;have h1:=hρ x rfl;simp only[AOp.run] at hr;split at hr
 ·rename_i cs e;rw[e] at h1;obtain⟨u,hu⟩:∃u,ρ' x=u:=⟨_,rfl⟩;rw[hu] at h1;cases h1 with
  | agg nn hh =>
   rename_i ys;have hL:LR m cs.toList ys.toList:=LR.arr.2 ⟨nn,hh⟩
   have hq:(if g then some (Value.agg (cs.extract off (off+n))) else cs[off]?)=some v/\h'=h:=by
    cases g<;>simp at hr ⊢
    ·obtain⟨a,b,c,d⟩:=hr; subst c; exact⟨b,d.symm⟩
    ·exact⟨hr.1,hr.2.symm⟩
   obtain⟨hq,rfl⟩:=hq;obtain⟨u',hu',hv⟩:=VR.part hL hq;refine Done.pure (v':=u') H ?_ hv;simp only[execOp,hop,hu];refine runV ?_;simp only[cOp] at hc;split at hc
   ·rename_i fs hfs;split at hc
    ·rename_i f hf;split at hc
     ·rename_i z g' hz hg';simp only[Option.some.injEq,AOp.fld.injEq,and_true] at hc;obtain⟨rfl,rfl,rfl⟩:=hc;simp only[Instr.field,Sem.run_bind,run_underlying hfs,Result.andThen_ok,hf,asAgg,Sem.run_pure,run_part hg' hz hu']
     ·cases hc
    ·cases hc
   ·cases hc
 ·cases hr
theorem cConv_inv {s d:TypeId}{x:Operand}{a:AOp}(hc:cConv P s d x=some a) :
  (∃k k',a=.i2i k x/\P.underlying s=some (.int k')/\P.underlying d=some (.int k))\/(∃k',a=.i2s x/\P.underlying s=some (.int k')/\P.underlying d=some .string) \/
  (a=.s2s x/\P.underlying s=some .string/\P.underlying d=some .string) \/
  (∃e,a=.s2b x/\P.underlying s=some .string/\P.underlying d=some (.slice e)/\P.underlying e=some (.int .u8)/\szOf P e=some 1) \/
  (∃e,a=.b2s x/\P.underlying s=some (.slice e)/\P.underlying d=some .string/\P.underlying e=some (.int .u8)/\szOf P e=some 1):=by
 unfold cConv at hc;split at hc
 ·rename_i k' k e1 e2; cases hc; exact Or.inl ⟨k,k',rfl,e1,e2⟩
 ·rename_i k' e1 e2; cases hc; exact Or.inr (Or.inl ⟨k',rfl,e1,e2⟩)
 ·rename_i e1 e2; cases hc; exact Or.inr (Or.inr (Or.inl ⟨rfl,e1,e2⟩))
 ·rename_i e e1 e2;split at hc
  ·rename_i f1 f2; cases hc; exact Or.inr (Or.inr (Or.inr (Or.inl ⟨e,rfl,e1,e2,f1,f2⟩)))
  ·cases hc
 ·rename_i e e1 e2;split at hc
  ·rename_i f1 f2; cases hc; exact Or.inr (Or.inr (Or.inr (Or.inr ⟨e,rfl,e1,e2,f1,f2⟩)))
  ·cases hc
 ·cases hc
theorem sim_i2i {s d:TypeId}{x:Operand}{k k':IntKind}(hop:o.op=.convert s d x)(e1:P.underlying s=some (.int k'))(e2:P.underlying d=some (.int k))(H:HR m h w)(hρ:∀x∈o.op.operands,VR m (ρ x) (ρ' x))
  (hr:(AOp.i2i k x).run lim ρ h=some (v,h')):Done P lim o ρ' m h w v h':=by
 rw[hop] at hρ;simp only[Op.operands,List.mem_toArray,List.mem_cons,List.not_mem_nil,or_false] at hρ;have h1:=hρ x rfl;simp only[AOp.run] at hr;split at hr
 ·rename_i k2 n e;rw[e] at h1;cases hr;refine Done.pure (v':=.int k (k.wrap n)) H ?_ (.int _ _);simp only[execOp,hop,h1.int'];exact runV (by simp only[convert,Sem.run_bind,run_underlying e1,run_underlying e2,Result.andThen_ok,Conv.intToInt]; rfl)
 ·cases hr
theorem sim_i2s {s d:TypeId}{x:Operand}{k':IntKind}(hop:o.op=.convert s d x)(e1:P.underlying s=some (.int k'))(e2:P.underlying d=some .string)(H:HR m h w)(hρ:∀x∈o.op.operands,VR m (ρ x) (ρ' x))
  (hr:(AOp.i2s x).run lim ρ h=some (v,h')):Done P lim o ρ' m h w v h':=by
 rw[hop] at hρ;simp only[Op.operands,List.mem_toArray,List.mem_cons,List.not_mem_nil,or_false] at hρ;have h1:=hρ x rfl;simp only[AOp.run] at hr;split at hr
 ·rename_i k2 n e;rw[e] at h1;cases hr;refine Done.pure (v':=.string (Utf8.encode n)) H ?_ (.str _);simp only[execOp,hop,h1.int'];exact runV (by simp only[convert,Sem.run_bind,run_underlying e1,run_underlying e2,Result.andThen_ok,Conv.intToString]; rfl)
 ·cases hr
theorem sim_s2s {s d:TypeId}{x:Operand}(hop:o.op=.convert s d x)(e1:P.underlying s=some .string)(e2:P.underlying d=some .string)(H:HR m h w)(hρ:∀x∈o.op.operands,VR m (ρ x) (ρ' x))
  (hr:(AOp.s2s x).run lim ρ h=some (v,h')):Done P lim o ρ' m h w v h':=by
 rw[hop] at hρ;simp only[Op.operands,List.mem_toArray,List.mem_cons,List.not_mem_nil,or_false] at hρ;have h1:=hρ x rfl;simp only[AOp.run] at hr;split at hr
 ·rename_i b e;rw[e] at h1;cases hr;refine Done.pure (v':=.string b) H ?_ (.str b);simp only[execOp,hop,h1.str'];exact runV (by simp only[convert,Sem.run_bind,run_underlying e1,run_underlying e2,Result.andThen_ok]; rfl)
 ·cases hr
theorem sim_arrP {t:TypeId}{x:Operand}{n:Nat}(hop:o.op=.sliceToArrayPointer t x)(hc:cOp P o.op=some (.arrP n x))(H:HR m h w)(hρ:∀x∈o.op.operands,VR m (ρ x) (ρ' x))
  (hr:(AOp.arrP n x).run lim ρ h=some (v,h')):Done P lim o ρ' m h w v h':=by
 rw[hop] at hρ hc;simp only[Op.operands,List.mem_toArray,List.mem_cons,List.not_mem_nil,or_false] at hρ;have h1:=hρ x rfl;simp only[AOp.run] at hr;split at hr
 ·rename_i a len es e;split at hr
  ·rename_i hle;rw[e] at h1;cases hr;obtain⟨u,hu⟩:∃u,ρ' x=u:=⟨_,rfl⟩;rw[hu] at h1
   have hrun:∀(a':Addr) (cap:Nat),u=.slice (some a') len cap->(execOp ρ' o).run P w=.ok (.value (.pointer (some a'))) w:=by
    intro a' cap hu';simp only[execOp,hop,hu,hu'];refine runV ?_;simp only[cOp] at hc;split at hc
    ·rename_i n' e' hfs;simp only[Option.some.injEq,AOp.arrP.injEq,and_true] at hc;subst hc;simp only[Instr.arrayAt,Sem.run_bind,run_underlying hfs,Result.andThen_ok];rw[if_neg (by omega)];rfl
    ·cases hc
   cases h1 with
   | sl hm hl hcc=>exact Done.pure H (hrun _ _ rfl) (.ptr hm)
   | sl0 hm=>omega
  ·cases hr
 ·cases hr
end
section
variable [Start]
variable {P:Program}{lim:Nat}{o:Oper}{ρ ρ':Operand->Value}{m:Mp}{h h':Hp}{w:World}{v:Value}
theorem bound_run {isS:Bool}{lo hi:Option Value}{len cap l r:Nat}(hb:bound lo hi len=some (l,r))(hc:len<=cap)(w:World) :
  (Instr.sliceBounds isS len cap lo hi none).run P w=.ok (l,r,cap) w/\l<=r/\r<=len:=by
 unfold bound at hb;split at hb
 ·cases hb;exact⟨by simp[Instr.sliceBounds],Nat.zero_le _,Nat.le_refl _⟩
 ·rename_i k x;split at hb
  ·rename_i hx;cases hb;refine⟨?_,by omega,Nat.le_refl _⟩;simp[Instr.sliceBounds,Instr.sliceBound,run_asIntOf,hx]
  ·cases hb
 ·rename_i k x;split at hb
  ·rename_i hx;cases hb;refine⟨?_,Nat.zero_le _,by omega⟩;have h2:x<=(cap:Int):=by omega
   simp[Instr.sliceBounds,Instr.sliceBound,run_asIntOf,hx,h2]
  ·cases hb
 ·rename_i k x k' y;split at hb
  ·rename_i hx;obtain⟨h1,h2,h3,h4⟩:=hx;cases hb;refine⟨?_,by omega,by omega⟩;have h5:y<=(cap:Int):=by omega
   have h6:x<=(y.toNat:Int):=by omega
   have h7:0<=y/\y<=(cap:Int):=⟨h1,h5⟩;have h8:0<=x/\x<=(y.toNat:Int):=⟨h3,h6⟩;have h9:0<=x/\x<=y:=⟨h3,h4⟩;simp[Instr.sliceBounds,Instr.sliceBound,run_asIntOf,h7,h1,h3];intro hh; omega
  ·cases hb
 ·cases hb
theorem bound_int {lo hi:Option Value}{len l r:Nat}(hb:bound lo hi len=some (l,r)):(∀x,lo=some x->∃k n,x=.int k n)/\(∀x,hi=some x->∃k n,x=.int k n):=by
 unfold bound at hb;split at hb
 ·simp
 ·simp
 ·simp
 ·simp
 ·cases hb
theorem bound_same {lo hi:Option Operand}{len l r:Nat}(hb:bound (lo.map ρ) (hi.map ρ) len=some (l,r))(h1:∀x,lo=some x->VR m (ρ x) (ρ' x))(h2:∀x,hi=some x->VR m (ρ x) (ρ' x)) :
  lo.map ρ'=lo.map ρ/\hi.map ρ'=hi.map ρ:=by
 obtain⟨b1,b2⟩:=bound_int hb;constructor
 ·cases lo with
  | none=>rfl
  | some x =>
   obtain⟨k,n,e⟩:=b1 _ rfl;have:=h1 x rfl;rw[e] at this;simp only[Option.map_some,e,this.int']
 ·cases hi with
  | none=>rfl
  | some x =>
   obtain⟨k,n,e⟩:=b2 _ rfl;have:=h2 x rfl;rw[e] at this;simp only[Option.map_some,e,this.int']
theorem sim_cutT {t:TypeId}{x:Operand}{lo hi:Option Operand}(hop:o.op=.slice t x lo hi none)(hc:cOp P o.op=some (.cutT x lo hi))(H:HR m h w)(hρ:∀x∈o.op.operands,VR m (ρ x) (ρ' x))
  (hr:(AOp.cutT x lo hi).run lim ρ h=some (v,h')):Done P lim o ρ' m h w v h':=by
 rw[hop] at hρ hc;have h1:=hρ x (by simp[Op.operands]);have hlo:∀y,lo=some y->VR m (ρ y) (ρ' y):=fun y hy=>hρ y (by simp[Op.operands,hy]);have hhi:∀y,hi=some y->VR m (ρ y) (ρ' y):=fun y hy=>hρ y (by simp[Op.operands,hy]);simp only[AOp.run] at hr;split at hr
 ·rename_i s e;rw[e] at h1;simp only[Option.map_eq_some_iff,Prod.mk.injEq] at hr;obtain⟨⟨l,r⟩,hb,rfl,rfl⟩:=hr;obtain⟨e1,e2⟩:=bound_same hb hlo hhi;refine Done.pure (v':=.string (s.extract l r)) H ?_ (.str _);simp only[execOp,hop,h1.str',e1,e2,Option.map_none];refine runV ?_;simp only[cOp] at hc;split at hc
  ·rename_i hfs;simp only[Instr.sliceAt,Instr.slice,Sem.run_bind,run_underlying hfs,Result.andThen_ok,Option.isSome_none,Bool.false_eq_true,if_false];simp only[Sem.run_pure,Result.andThen_ok,(bound_run hb (Nat.le_refl _) w).1]
  ·split at hc<;>simp at hc
  ·split at hc<;>simp at hc
  ·cases hc
 ·cases hr
theorem sim_cutS {t:TypeId}{x:Operand}{es:Nat}{lo hi:Option Operand}(hop:o.op=.slice t x lo hi none)(hc:cOp P o.op=some (.cutS es x lo hi))(H:HR m h w)(hρ:∀x∈o.op.operands,VR m (ρ x) (ρ' x))
  (hr:(AOp.cutS es x lo hi).run lim ρ h=some (v,h')):Done P lim o ρ' m h w v h':=by
 rw[hop] at hρ hc;have h1:=hρ x (by simp[Op.operands]);have hlo:∀y,lo=some y->VR m (ρ y) (ρ' y):=fun y hy=>hρ y (by simp[Op.operands,hy]);have hhi:∀y,hi=some y->VR m (ρ y) (ρ' y):=fun y hy=>hρ y (by simp[Op.operands,hy]);simp only[cOp] at hc;split at hc
 ·cases hc
 ·rename_i el hfs;split at hc
  ·rename_i z hz;simp only[Option.some.injEq,AOp.cutS.injEq,and_true] at hc;subst hc
   have hrun:∀(a:Option Addr) (len cap l r:Nat),bound (lo.map ρ) (hi.map ρ) len=some (l,r)->len<=cap->ρ' x=.slice a len cap ->
     (execOp ρ' o).run P w=.ok (.value (.slice (if cap=l then a else a.map (·.add (l*(z+1)))) (r-l) (cap-l))) w:=by
    intro a len cap l r hb hcap hu;obtain⟨e1,e2⟩:=bound_same hb hlo hhi;simp only[execOp,hop,hu,e1,e2,Option.map_none];refine runV ?_;simp only[Instr.sliceAt,Instr.slice,Sem.run_bind,run_underlying hfs,Result.andThen_ok,(bound_run hb hcap w).1,run_sizeOf' hz,Sem.run_pure]
   simp only[AOp.run] at hr;split at hr
   ·rename_i e;rw[e] at h1;simp only[Option.map_eq_some_iff,Prod.mk.injEq] at hr;obtain⟨⟨l,r⟩,hb,rfl,rfl⟩:=hr;obtain⟨u,hu⟩:∃u,ρ' x=u:=⟨_,rfl⟩;rw[hu] at h1;cases h1;have h3:=(bound_run (P:=P) (isS:=true) hb (Nat.le_refl _) w).2;have:=hrun none 0 0 l r hb (Nat.le_refl _) hu;obtain rfl:l=0:=by omega
    obtain rfl:r=0:=by omega
    exact Done.pure (v':=.slice none 0 0) H (by simpa using this) .snil
   ·rename_i b o' len e' e;rw[e] at h1;split at hr
    ·rename_i he;subst he;simp only[Option.map_eq_some_iff,Prod.mk.injEq] at hr;obtain⟨⟨l,r⟩,hb,rfl,rfl⟩:=hr;obtain⟨u,hu⟩:∃u,ρ' x=u:=⟨_,rfl⟩;rw[hu] at h1;have h3:=(bound_run (P:=P) (isS:=true) hb (Nat.le_refl _) w).2;cases h1 with
     | sl hm hl hcc =>
      rename_i cap p;have:=hrun _ len cap l r hb hl hu
      by_cases hcl:cap=l
      ·rw[if_pos hcl] at this;subst hcl;have hrr:r=cap:=by omega
       subst hrr;simp only[Nat.sub_self] at this ⊢;exact Done.pure H this (.sl0 hm)
      ·rw[if_neg hcl] at this;refine Done.pure H this ?_;simp only[Option.map_some,add_lit',Nat.add_assoc];refine .sl hm (by omega) fun ho=>?_;have:=hcc ho;have:(cap-l)*(z+1)=cap*(z+1)-l*(z+1):=Nat.sub_mul _ _ _;have:l*(z+1)<=cap*(z+1):=Nat.mul_le_mul_right _ (by omega);omega
     | sl0 hm =>
      have:=hrun _ 0 0 l r hb (Nat.le_refl _) hu;obtain rfl:l=0:=by omega
      obtain rfl:r=0:=by omega
      refine Done.pure H (by simpa using this) ?_;simp only[Nat.zero_mul,Nat.add_zero,Nat.sub_self];exact .sl0 hm
    ·cases hr
   ·cases hr
  ·cases hc
 ·split at hc<;>simp at hc
 ·cases hc
theorem sim_cutA {t:TypeId}{x:Operand}{len es:Nat}{lo hi:Option Operand}(hop:o.op=.slice t x lo hi none)(hc:cOp P o.op=some (.cutA len es x lo hi))(H:HR m h w)(hρ:∀x∈o.op.operands,VR m (ρ x) (ρ' x))
  (hr:(AOp.cutA len es x lo hi).run lim ρ h=some (v,h')):Done P lim o ρ' m h w v h':=by
 rw[hop] at hρ hc;have h1:=hρ x (by simp[Op.operands]);have hlo:∀y,lo=some y->VR m (ρ y) (ρ' y):=fun y hy=>hρ y (by simp[Op.operands,hy]);have hhi:∀y,hi=some y->VR m (ρ y) (ρ' y):=fun y hy=>hρ y (by simp[Op.operands,hy]);simp only[cOp] at hc;split at hc
 ·cases hc
 ·split at hc<;>simp at hc
 ·rename_i n el hfs;split at hc
  ·rename_i z hz;simp only[Option.some.injEq,AOp.cutA.injEq,and_true] at hc;obtain⟨rfl,rfl⟩:=hc;simp only[AOp.run] at hr;split at hr
   ·rename_i b o' e;rw[e] at h1;split at hr
    ·rename_i own cs hb0;split at hr
     ·rename_i hfit;simp only[Option.map_eq_some_iff,Prod.mk.injEq] at hr;obtain⟨⟨l,r⟩,hb,rfl,rfl⟩:=hr;obtain⟨e1,e2⟩:=bound_same hb hlo hhi;obtain⟨u,hu⟩:∃u,ρ' x=u:=⟨_,rfl⟩;rw[hu] at h1;cases h1 with
      | ptr hm =>
       rename_i p;have h3:=(bound_run (P:=P) (isS:=true) hb (Nat.le_refl _) w).2
       have hrun:(execOp ρ' o).run P w=.ok (.value (.slice (some (if n=l then⟨p.c,p.base+o',none⟩ else⟨p.c,p.base+o'+l*(z+1),none⟩)) (r-l) (n-l))) w:=by
        simp only[execOp,hop,hu,e1,e2,Option.map_none];refine runV ?_;simp only[Instr.sliceAt,Sem.run_bind,run_underlying hfs,Result.andThen_ok,Instr.sureAddr,Sem.run_pure,(bound_run hb (Nat.le_refl _) w).1,run_sizeOf' hz,add_lit']
       by_cases hcl:n=l
       ·rw[if_pos hcl] at hrun;subst hcl;have hrr:r=n:=by omega
        subst hrr;simp only[Nat.sub_self] at hrun ⊢;exact Done.pure H hrun (.sl0 hm)
       ·rw[if_neg hcl] at hrun;refine Done.pure H hrun ?_;rw[Nat.add_assoc];refine .sl hm (by omega) fun ho=>?_;have hB:=H.blk _ _ _ hm hb0;have:=(hB.2.2 ho).1;have:(n-l)*(z+1)=n*(z+1)-l*(z+1):=Nat.sub_mul _ _ _;have:l*(z+1)<=n*(z+1):=Nat.mul_le_mul_right _ (by omega);show o'+l*(z+1)+(n-l)*(z+1)<=p.lim;omega
     ·cases hr
    ·cases hr
   ·cases hr
  ·cases hc
 ·cases hc
theorem VR.isNil {m:Mp}{k:NK}{u u':Value}(h:VR m u u'):isNil k u'=isNil k u:=by cases h<;>cases k<;>rfl
theorem nilConst_val {k:NK}{y:Operand}(hy:nilConst k y=true):∃c,y=.const c/\Ab.isNil k c=some true/\∀xs,c≠.agg xs:=by
 unfold nilConst at hy;split at hy<;>simp[Ab.isNil] at hy ⊢
theorem eqGuard_const {op:BinOp}{t:TypeId}{x y:Operand}{a b:Value}{k:NK}(hc:nilConst k x=true\/nilConst k y=true)(hna:∀xs ys,¬ (a=.agg xs/\b=.agg ys))(w:World):(eqGuard op t x y a b).run P w=.ok () w:=by
 unfold eqGuard;cases op<;>try rfl
 all_goals
  simp only[Bool.not_true,Bool.false_eq_true,if_false,pure_bind];split
  ·rcases hc with h | h
   ·obtain⟨c,rfl,-⟩:=nilConst_val h; rfl
   ·obtain⟨c,rfl,-⟩:=nilConst_val h; simp
  ·exact absurd ⟨rfl,rfl⟩ (hna _ _)
  ·rfl
theorem equalIn_nil {n:Nat}{t:TypeId}{d:TypeDesc}{k:NK}{a c:Value}{g:Bool}(ht:P.underlying t=some d)(hk:nkOf d=some k)(ha:Ab.isNil k a=some g)(hc:Ab.isNil k c=some true)(w:World) :
  (Op.equalIn (n+1) t a c).run P w=.ok g w/\(Op.equalIn (n+1) t c a).run P w=.ok g w:=by
 have hu:=run_underlying ht w;cases d<;>simp[nkOf] at hk<;>subst hk
 ·cases a<;>simp[Ab.isNil] at ha;cases c<;>simp[Ab.isNil] at hc;subst ha hc;rename_i a;constructor<;>simp only[Op.equalIn,Sem.run_bind,hu,Result.andThen_ok]<;>cases a<;>rfl
 ·cases a<;>simp[Ab.isNil] at ha;cases c<;>simp[Ab.isNil] at hc;subst ha hc;rename_i a _ _ _ _;constructor<;>simp only[Op.equalIn,Sem.run_bind,hu,Result.andThen_ok]<;>cases a<;>rfl
 ·cases a<;>simp[Ab.isNil] at ha;cases c<;>simp[Ab.isNil] at hc;subst ha hc;rename_i a;constructor<;>simp only[Op.equalIn,Sem.run_bind,hu,Result.andThen_ok]<;>cases a<;>rfl
 ·cases c<;>simp[Ab.isNil] at hc;cases a<;>simp[Ab.isNil] at ha<;>subst ha<;>constructor<;>simp only[Op.equalIn,Sem.run_bind,hu,Result.andThen_ok]<;>rfl
 ·cases c<;>simp[Ab.isNil] at hc;cases a<;>simp[Ab.isNil] at ha<;>subst ha<;>constructor<;>simp only[Op.equalIn,Sem.run_bind,hu,Result.andThen_ok]<;>rfl
theorem equal_nil {t:TypeId}{d:TypeDesc}{k:NK}{a c:Value}{g:Bool}(ht:P.underlying t=some d)(hk:nkOf d=some k)(ha:Ab.isNil k a=some g)(hc:Ab.isNil k c=some true)(w:World) :
  (Op.equal t a c).run P w=.ok g w/\(Op.equal t c a).run P w=.ok g w:=equalIn_nil (n:=9999) ht hk ha hc w
theorem isNil_kind {k:NK}{a:Value}{g:Bool}(ha:Ab.isNil k a=some g):(∀xs,a≠.agg xs)/\(∀k n,a≠.int k n)/\(∀s,a≠.string s)/\(∀k n,a≠.float k n)/\(∀k n l,a≠.complex k n l):=by
 cases a<;>cases k<;>simp[Ab.isNil] at ha ⊢
theorem binOp_eql {t:TypeId}{a b:Value}{k k':NK}{g g':Bool}(ha:Ab.isNil k a=some g)(hb:Ab.isNil k' b=some g'):binOp .eql t a b=(do Pure.pure (Value.bool (<- Op.equal t a b)))/\binOp .neq t a b=(do Pure.pure (Value.bool (!(<- Op.equal t a b)))):=by
 cases a<;>cases k<;>simp[Ab.isNil] at ha<;>cases b<;>cases k'<;>simp[Ab.isNil] at hb<;>exact⟨rfl,rfl⟩
theorem sim_isnil {op:BinOp}{t yt:TypeId}{x y z:Operand}{k:NK}{neg:Bool}(hop:o.op=.binOp op t x y yt)(hc:cOp P o.op=some (.isnil k neg z))(H:HR m h w)(hρ:∀x∈o.op.operands,VR m (ρ x) (ρ' x))
  (hr:(AOp.isnil k neg z).run lim ρ h=some (v,h'))(hcc:∀c,ρ' (.const c)=c):Done P lim o ρ' m h w v h':=by
 rw[hop] at hρ hc;have h1:=hρ x (by simp[Op.operands]);have h2:=hρ y (by simp[Op.operands]);simp only[AOp.run,Option.map_eq_some_iff,Prod.mk.injEq] at hr;obtain⟨g,hg,rfl,rfl⟩:=hr;simp only[cOp,cBin,Option.bind_eq_some_iff] at hc;obtain⟨d,hd,hc⟩:=hc
 have hcn:nkOf d=some k/\cNil op k x y=some (.isnil k neg z):=by
  have aux:∀k',cNil op k' x y=some (.isnil k neg z)->k'=k:=by
   intro k' e;unfold cNil at e
   repeat' split at e
   all_goals first
    | (cases e; done)
    | (simp only[Option.some.injEq,AOp.isnil.injEq] at e; exact e.1)
  have aux2:∀ks,(if op=.eql then some (AOp.eqd false true ks x y) else if op=.neq then some (.eqd true true ks x y) else none)≠some (.isnil k neg z):=by
   intro ks; repeat' split
   all_goals simp
  cases d<;>simp only[cBinD,nkOf,Option.bind_some,Option.bind_none] at hc ⊢<;>first
   | (cases hc; done)
   | (unfold cBool at hc; repeat' split at hc
      all_goals cases hc)
   | (unfold cAgg at hc; split at hc
      ·cases hc
      ·simp only[Option.bind_eq_some_iff] at hc;obtain⟨ks,-,e⟩:=hc;exact absurd e (aux2 ks))
   | (obtain rfl:=aux _ hc; exact⟨rfl,hc⟩)
 obtain⟨hk,hc⟩:=hcn
 have key:((nilConst k y=true/\z=x)\/(nilConst k x=true/\z=y))/\((op=.eql/\neg=false)\/(op=.neq/\neg=true)):=by
  unfold cNil at hc;split at hc
  ·rename_i ho
   have hno:(op=.eql/\(op==.neq)=false)\/(op=.neq/\(op==.neq)=true):=by
    rcases ho with rfl | rfl
    ·exact Or.inl ⟨rfl,rfl⟩
    ·exact Or.inr ⟨rfl,rfl⟩
   split at hc
   ·rename_i hn;simp only[Option.some.injEq,AOp.isnil.injEq,true_and] at hc;obtain⟨rfl,rfl⟩:=hc;exact⟨Or.inl ⟨hn,rfl⟩,hno⟩
   ·split at hc
    ·rename_i hn;simp only[Option.some.injEq,AOp.isnil.injEq,true_and] at hc;obtain⟨rfl,rfl⟩:=hc;exact⟨Or.inr ⟨hn,rfl⟩,hno⟩
    ·cases hc
  ·cases hc
 obtain⟨hz,hneg⟩:=key
 have hfin:∀(a c:Value),(ρ' x=a/\ρ' y=c)\/(ρ' x=c/\ρ' y=a)->Ab.isNil k a=some g->Ab.isNil k c=some true->(nilConst k x=true\/nilConst k y=true) ->
   Done P lim o ρ' m h w (.bool (if neg then !g else g)) h:=by
  intro a c hac ha hcn hnc;refine Done.pure (v':=.bool (if neg then !g else g)) H ?_ (.bool _);simp only[execOp,hop];refine runV ?_;have hx:Ab.isNil k (ρ' x)=some g\/Ab.isNil k (ρ' x)=some true:=by rcases hac with⟨e1,e2⟩ | ⟨e1,e2⟩<;>simp[e1,ha,hcn]
  have hy:Ab.isNil k (ρ' y)=some g\/Ab.isNil k (ρ' y)=some true:=by rcases hac with⟨e1,e2⟩ | ⟨e1,e2⟩<;>simp[e2,ha,hcn]
  obtain⟨gx,hx⟩:∃gx,Ab.isNil k (ρ' x)=some gx:=by rcases hx with h | h<;>exact⟨_,h⟩
  obtain⟨gy,hy⟩:∃gy,Ab.isNil k (ρ' y)=some gy:=by rcases hy with h | h<;>exact⟨_,h⟩
  have hg1:=eqGuard_const (P:=P) (op:=op) (t:=t) (x:=x) (y:=y) (a:=ρ' x) (b:=ρ' y) hnc (fun xs ys e=>(isNil_kind hx).1 xs e.1) w
  have heq:(Op.equal t (ρ' x) (ρ' y)).run P w=.ok g w:=by
   rcases hac with⟨e1,e2⟩ | ⟨e1,e2⟩
   ·rw[e1,e2]; exact(equal_nil hd hk ha hcn w).1
   ·rw[e1,e2]; exact(equal_nil hd hk ha hcn w).2
  simp only[Sem.run_bind,hg1,Result.andThen_ok];rcases hneg with⟨rfl,rfl⟩ | ⟨rfl,rfl⟩
  ·rw[(binOp_eql hx hy).1]; simp[Sem.run_bind,heq,Result.andThen_ok]
  ·rw[(binOp_eql hx hy).2]; simp[Sem.run_bind,heq,Result.andThen_ok]
 rcases hz with⟨hn,rfl⟩ | ⟨hn,rfl⟩
 ·obtain⟨c,rfl,hcn,-⟩:=nilConst_val hn;exact hfin (ρ' z) c (Or.inl ⟨rfl,hcc c⟩) (by rw[h1.isNil]; exact hg) hcn (Or.inr hn)
 ·obtain⟨c,rfl,hcn,-⟩:=nilConst_val hn;exact hfin (ρ' z) c (Or.inr ⟨hcc c,rfl⟩) (by rw[h2.isNil]; exact hg) hcn (Or.inl hn)
end
section
variable [Start]
variable {P:Program}{lim:Nat}{o:Oper}{ρ ρ':Operand->Value}{m:Mp}{h h':Hp}{w:World}{v:Value}
theorem lksEq_append {k1 k2:List LK}:∀ {xs ys:List Value} {b:Bool},lksEq (k1++k2) xs ys=some b ->
  ∃b1 b2,lksEq k1 (xs.take k1.length) (ys.take k1.length)=some b1/\lksEq k2 (xs.drop k1.length) (ys.drop k1.length)=some b2/\b=(b1&&b2):=by
 induction k1 with
 | nil=>intro xs ys b h; exact⟨true,b,rfl,by simpa using h,by simp⟩
 | cons k k1 ih =>
  intro xs ys b h;cases xs with
  | nil=>simp[lksEq] at h
  | cons x xs =>
   cases ys with
   | nil=>simp[lksEq] at h
   | cons y ys =>
    simp only[List.cons_append,lksEq] at h;split at h
    ·rename_i a c e1 e2;cases h;obtain⟨b1,b2,h1,h2,rfl⟩:=ih e2;refine⟨a&&b1,b2,?_,?_,by rw[Bool.and_assoc]⟩
     ·simp[lksEq,e1,h1]
     ·simpa using h2
    ·cases h
theorem lksEq_len {ks:List LK}:∀ {xs ys:List Value} {b:Bool},lksEq ks xs ys=some b->xs.length=ks.length/\ys.length=ks.length:=by
 induction ks with
 | nil =>
  intro xs ys b h;cases xs<;>cases ys<;>simp[lksEq] at h ⊢
 | cons k ks ih =>
  intro xs ys b h;cases xs with
  | nil=>simp[lksEq] at h
  | cons x xs =>
   cases ys with
   | nil=>simp[lksEq] at h
   | cons y ys =>
    simp only[lksEq] at h;split at h
    ·rename_i a c e1 e2;have:=ih e2;simp[this.1,this.2]
    ·cases h
theorem lkEq_same {k:LK}{x y:Value}{b:Bool}(h:lkEq k x y=some b){m:Mp}{x' y':Value}(hx:VR m x x')(hy:VR m y y'):x'=x/\y'=y:=by
 unfold lkEq at h;split at h
 ·exact⟨hx.int',hy.int'⟩
 ·exact⟨hx.str',hy.str'⟩
 ·exact⟨hx.bool',hy.bool'⟩
 ·cases h
theorem lksEq_same {ks:List LK}:∀ {xs ys:List Value} {b:Bool},lksEq ks xs ys=some b->∀ {m:Mp} {xs' ys':List Value},LR m xs xs'->LR m ys ys'->xs'=xs/\ys'=ys:=by
 induction ks with
 | nil =>
  intro xs ys b h m xs' ys' hx hy;cases xs<;>cases ys<;>simp[lksEq] at h;exact⟨hx.cases_nil,hy.cases_nil⟩
 | cons k ks ih =>
  intro xs ys b h m xs' ys' hx hy;cases xs with
  | nil=>simp[lksEq] at h
  | cons x xs =>
   cases ys with
   | nil=>simp[lksEq] at h
   | cons y ys =>
    simp only[lksEq] at h;split at h
    ·rename_i a c e1 e2;obtain⟨x',xs',rfl,h1,h2⟩:=hx.cases_cons;obtain⟨y',ys',rfl,h3,h4⟩:=hy.cases_cons;obtain⟨rfl,rfl⟩:=lkEq_same e1 h1 h3;obtain⟨rfl,rfl⟩:=ih e2 h2 h4;exact⟨rfl,rfl⟩
    ·cases h
def Form (P:Program)(t:TypeId)(x:Value)(xs:List Value):Prop:=if aggOf P t=some true then x=.agg xs.toArray else xs=[x]
theorem part_form {t:TypeId}{l:List LK}{d:Nat}(hl:leaves P d t=some l)(hs:szOf P t=some l.length){cs:Array Value}{off:Nat}{xs ys:List Value}{b:Bool}
  (hx:xs=(cs.toList.drop off).take l.length)(hn:xs.length=l.length)(w:World):∃x,(part t cs off).run P w=.ok x w/\Form P t x xs:=by
 cases d with
 | zero=>simp[leaves] at hl
 | succ d =>
  simp only[leaves] at hl
  have hone:∀k,l=[k]->aggOf P t=some false->∃x,(part t cs off).run P w=.ok x w/\Form P t x xs:=by
   intro k hk ha;subst hk
   have:off<cs.size:=by
    simp only[List.length_singleton] at hn hx;rcases Nat.lt_or_ge off cs.size with h | h
    ·exact h
    ·rw[hx,List.drop_eq_nil_of_le (by simpa using h)] at hn; simp at hn
   refine⟨cs[off],run_part ha hs (by simp[this]) w,?_⟩;unfold Form;rw[ha,if_neg (by simp),hx];simp only[List.length_singleton];rw[List.drop_eq_getElem_cons (by simpa using this)];simp
  split at hl
  ·rename_i k hu;exact hone _ (by cases hl; rfl) (by simp[aggOf,hu])
  ·rename_i hu;exact hone _ (by cases hl; rfl) (by simp[aggOf,hu])
  ·rename_i hu;exact hone _ (by cases hl; rfl) (by simp[aggOf,hu])
  ·rename_i fs hu;have ha:aggOf P t=some true:=by simp[aggOf,hu]
   refine⟨.agg (cs.extract off (off+l.length)),run_part ha hs rfl w,?_⟩;unfold Form;rw[ha,if_pos rfl,hx]
   congr 1
   apply Array.ext';simp[Array.toList_extract,List.extract_eq_take_drop]
  ·rename_i n e hu;have ha:aggOf P t=some true:=by simp[aggOf,hu]
   refine⟨.agg (cs.extract off (off+l.length)),run_part ha hs rfl w,?_⟩;unfold Form;rw[ha,if_pos rfl,hx]
   congr 1
   apply Array.ext';simp[Array.toList_extract,List.extract_eq_take_drop]
  ·cases hl
def EqOk (P:Program)(n:Nat)(t:TypeId)(l:List LK):Prop :=
 ∀(w:World) (xs ys:List Value) (b:Bool) (x y:Value),lksEq l xs ys=some b->Form P t x xs->Form P t y ys->(Op.equalIn n t x y).run P w=.ok b w
theorem eqFields_ok {n d:Nat}(IH:∀t l,leaves P d t=some l->EqOk P n t l)(cx cy:Array Value)(w:World):∀(fs:List Field) (off:Nat) (l:List LK),leavesF P (leaves P d) fs off=some l ->
  ∀b,lksEq l (cx.toList.drop off) (cy.toList.drop off)=some b->(Op.eqFields n cx cy fs).run P w=.ok b w:=by
 intro fs
 induction fs with
 | nil =>
  intro off l hl b hb;simp only[leavesF,Option.some.injEq] at hl;subst hl;cases hx:cx.toList.drop off<;>cases hy:cy.toList.drop off<;>simp[hx,hy,lksEq] at hb;subst hb;simp[Op.eqFields]
 | cons f fs ih =>
  intro off l hl b hb;simp only[leavesF,Option.bind_eq_some_iff] at hl;obtain⟨l1,h1,h2⟩:=hl;split at h2
  ·rename_i hc;obtain⟨hn,ho,hs⟩:=hc;simp only[Option.map_eq_some_iff] at h2;obtain⟨l2,h2,rfl⟩:=h2;obtain⟨b1,b2,e1,e2,rfl⟩:=lksEq_append hb;have hlen:=lksEq_len e1;obtain⟨x,px,fx⟩:=part_form (b:=true) (ys:=[]) h1 hs (cs:=cx) (off:=off) rfl hlen.1 w;obtain⟨y,py,fy⟩:=part_form (b:=true) (ys:=[]) h1 hs (cs:=cy) (off:=off) rfl hlen.2 w;have hq:=IH _ _ h1 w _ _ _ _ _ e1 fx fy;have hrest:=ih (off+l1.length) l2 h2 b2 (by simpa[List.drop_drop] using e2);subst ho;simp only[Op.eqFields,hn,ne_eq,not_false_eq_true,if_true,Sem.run_bind,px,py,hq,Result.andThen_ok];cases b1
   ·simp
   ·simpa using hrest
  ·cases h2
theorem eqItems_ok {n:Nat}{e:TypeId}{l:List LK}{d:Nat}(hl:leaves P d e=some l)(hs:szOf P e=some l.length)(IH:EqOk P n e l)(hce:P.cellsOf e=l.length)(cx cy:Array Value)(w:World) :
  ∀(k s:Nat) (b:Bool),lksEq (List.replicate k l).flatten (cx.toList.drop (s*l.length)) (cy.toList.drop (s*l.length))=some b ->
  (Op.eqItems n e (P.cellsOf e) cx cy (List.range' s k)).run P w=.ok b w:=by
 intro k
 induction k with
 | zero =>
  intro s b hb;simp only[List.replicate_zero,List.flatten_nil] at hb;cases hx:cx.toList.drop (s*l.length)<;>cases hy:cy.toList.drop (s*l.length)<;>simp[hx,hy,lksEq] at hb;subst hb;simp[Op.eqItems]
 | succ k ih =>
  intro s b hb;simp only[List.replicate_succ,List.flatten_cons] at hb;obtain⟨b1,b2,e1,e2,rfl⟩:=lksEq_append hb;have hlen:=lksEq_len e1;obtain⟨x,px,fx⟩:=part_form (b:=true) (ys:=[]) hl hs (cs:=cx) (off:=s*l.length) rfl hlen.1 w;obtain⟨y,py,fy⟩:=part_form (b:=true) (ys:=[]) hl hs (cs:=cy) (off:=s*l.length) rfl hlen.2 w;have hq:=IH w _ _ _ _ _ e1 fx fy;have hrest:=ih (s+1) b2 (by simpa[List.drop_drop,Nat.succ_mul] using e2);rw[List.range'_succ];simp only[Op.eqItems,hce,Sem.run_bind,px,py,hq,Result.andThen_ok];rw[hce] at hrest;cases b1
  ·simp
  ·simpa using hrest
theorem lkEq_int {k:IntKind}{x y:Value}{b:Bool}(h:lkEq (.int k) x y=some b):∃p q,x=.int k p/\y=.int k q/\b=(p==q):=by
 cases x<;>cases y<;>simp[lkEq] at h ⊢;obtain⟨⟨rfl,rfl⟩,rfl⟩:=h;simp
theorem lkEq_str {x y:Value}{b:Bool}(h:lkEq .str x y=some b):∃p q,x=.string p/\y=.string q/\b=(p==q):=by
 cases x<;>cases y<;>simp[lkEq] at h ⊢;exact h.symm
theorem lkEq_bool {x y:Value}{b:Bool}(h:lkEq .bool x y=some b):∃p q,x=.bool p/\y=.bool q/\b=(p==q):=by
 cases x<;>cases y<;>simp[lkEq] at h ⊢;exact h.symm
theorem fieldsOf_of {t:TypeId}{fs:Array Field}(h:P.underlying t=some (.struct fs)):P.fieldsOf t=fs:=by simp[Program.fieldsOf,h]
theorem leaves_ok:∀(d n:Nat) (t:TypeId) (l:List LK),leaves P d t=some l->EqOk P (n+d) t l:=by
 intro d
 induction d with
 | zero=>intro n t l h; simp[leaves] at h
 | succ d ih =>
  intro n t l hl w xs ys b x y hb hx hy;rw[<- Nat.add_assoc];simp only[leaves] at hl
  have one:∀k,l=[k]->aggOf P t=some false->xs=[x]/\ys=[y]/\lkEq k x y=some b:=by
   intro k hk ha;subst hk;unfold Form at hx hy;rw[ha,if_neg (by simp)] at hx hy;subst hx hy;simp only[lksEq] at hb;cases h1:lkEq k x y with
   | none=>simp[h1] at hb
   | some c=>simp[h1] at hb; exact⟨rfl,rfl,by rw[hb]⟩
  split at hl
  ·rename_i k hu;obtain⟨-,-,h3⟩:=one (.int k) (by cases hl; rfl) (by simp[aggOf,hu]);obtain⟨p,q,rfl,rfl,rfl⟩:=lkEq_int h3;exact run_equalIn_int w _ t _ _ _ _ hu
  ·rename_i hu;obtain⟨-,-,h3⟩:=one .str (by cases hl; rfl) (by simp[aggOf,hu]);obtain⟨p,q,rfl,rfl,rfl⟩:=lkEq_str h3;rw[beq_toListBytes];exact run_equalIn_string w _ t _ _ hu
  ·rename_i hu;obtain⟨-,-,h3⟩:=one .bool (by cases hl; rfl) (by simp[aggOf,hu]);obtain⟨p,q,rfl,rfl,rfl⟩:=lkEq_bool h3;exact run_equalIn_bool' w _ t _ _ hu
  ·rename_i fs hu;split at hl
   ·cases hl
   ·rename_i hsi;have ha:aggOf P t=some true:=by simp[aggOf,hu]
    unfold Form at hx hy;rw[ha,if_pos rfl] at hx hy;subst hx hy;rw[run_equalIn_struct w _ t _ _ (by rw[fieldsOf_of hu]; exact hu) (by simpa using hsi),fieldsOf_of hu];exact eqFields_ok (fun t l h=>ih n t l h) _ _ w _ 0 l hl b (by simpa using hb)
  ·rename_i k e hu;simp only[Option.bind_eq_some_iff] at hl;obtain⟨l1,h1,h2⟩:=hl;split at h2
   ·rename_i hs;cases h2;have ha:aggOf P t=some true:=by simp[aggOf,hu]
    unfold Form at hx hy;rw[ha,if_pos rfl] at hx hy;subst hx hy;have hs':=hs;unfold szOf at hs';simp only[Option.map_eq_some_iff] at hs';obtain⟨i,hi,hi2⟩:=hs';have hce:P.cellsOf e=l1.length:=by simp[Program.cellsOf,hi,hi2]
    rw[run_equalIn_array w _ _ _ hu hi,List.range_eq_range'];exact eqItems_ok h1 hs (ih n e l1 h1) hce _ _ w k 0 b (by simpa using hb)
   ·cases h2
  ·cases hl
theorem cBin_eqd {op:BinOp}{t:TypeId}{x y:Operand}{neg agg:Bool}{ks:List LK}{x' y':Operand}(hc:cBin P op t x y=some (.eqd neg agg ks x' y')) :
  x'=x/\y'=y/\((op=.eql/\neg=false)\/(op=.neq/\neg=true))/\(∃d,leaves P (d+1) t=some ks/\d<=99)/\aggOf P t=some agg/\(agg=true->P.eqGuardType P.depth t=false)/\(agg=false->ks=[.bool]):=by
 simp only[cBin,Option.bind_eq_some_iff] at hc;obtain⟨d,hd,hc⟩:=hc
 have hagg:∀e,cAgg P op t x y=some (.eqd neg agg ks x' y')->aggOf P t=some true->e->x'=x/\y'=y/\((op=.eql/\neg=false)\/(op=.neq/\neg=true))/\(∃d,leaves P (d+1) t=some ks/\d<=99)/\aggOf P t=some agg/\(agg=true->P.eqGuardType P.depth t=false)/\(agg=false->ks=[.bool]):=by
  intro e h ha _;unfold cAgg at h;split at h
  ·cases h
  ·rename_i hg;simp only[Option.bind_eq_some_iff] at h;obtain⟨ks',hk,h⟩:=h;split at h
   ·rename_i ho;simp only[Option.some.injEq,AOp.eqd.injEq] at h;obtain⟨rfl,rfl,rfl,rfl,rfl⟩:=h;exact⟨rfl,rfl,Or.inl ⟨ho,rfl⟩,⟨99,hk,Nat.le_refl _⟩,ha,fun _=>by simpa using hg,fun h=>by cases h⟩
   ·split at h
    ·rename_i ho;simp only[Option.some.injEq,AOp.eqd.injEq] at h;obtain⟨rfl,rfl,rfl,rfl,rfl⟩:=h;exact⟨rfl,rfl,Or.inr ⟨ho,rfl⟩,⟨99,hk,Nat.le_refl _⟩,ha,fun _=>by simpa using hg,fun h=>by cases h⟩
    ·cases h
 have hnil:∀k,cNil op k x y≠some (.eqd neg agg ks x' y'):=by
  intro k; unfold cNil; repeat' split
  all_goals simp
 cases d with
 | bool =>
  simp only[cBinD,cBool] at hc;have ha:aggOf P t=some false:=by simp[aggOf,hd]
  have hl:leaves P (0+1) t=some [.bool]:=by simp[leaves,hd]
  split at hc
  ·rename_i ho;simp only[Option.some.injEq,AOp.eqd.injEq] at hc;obtain⟨rfl,rfl,rfl,rfl,rfl⟩:=hc;exact⟨rfl,rfl,Or.inl ⟨ho,rfl⟩,⟨0,hl,by omega⟩,ha,(fun h=>by cases h),fun _=>rfl⟩
  ·split at hc
   ·rename_i ho;simp only[Option.some.injEq,AOp.eqd.injEq] at hc;obtain⟨rfl,rfl,rfl,rfl,rfl⟩:=hc;exact⟨rfl,rfl,Or.inr ⟨ho,rfl⟩,⟨0,hl,by omega⟩,ha,(fun h=>by cases h),fun _=>rfl⟩
   ·cases hc
 | struct fs=>exact hagg True hc (by simp[aggOf,hd]) trivial
 | array n e=>exact hagg True hc (by simp[aggOf,hd]) trivial
 | int k=>simp[cBinD] at hc
 | string=>simp[cBinD] at hc
 | pointer e=>exact absurd (by simpa[cBinD,nkOf] using hc) (hnil _)
 | slice e=>exact absurd (by simpa[cBinD,nkOf] using hc) (hnil _)
 | map k e=>exact absurd (by simpa[cBinD,nkOf] using hc) (hnil _)
 | func p r q=>exact absurd (by simpa[cBinD,nkOf] using hc) (hnil _)
 | interface ms=>exact absurd (by simpa[cBinD,nkOf] using hc) (hnil _)
 | invalid=>simp[cBinD,nkOf] at hc
 | float k=>simp[cBinD,nkOf] at hc
 | complex k=>simp[cBinD,nkOf] at hc
 | unsafePointer=>simp[cBinD,nkOf] at hc
 | chan d e=>simp[cBinD,nkOf] at hc
 | tuple e=>simp[cBinD,nkOf] at hc
 | named n u=>simp[cBinD,nkOf] at hc
theorem sim_eqd {op:BinOp}{t yt:TypeId}{x y x' y':Operand}{neg agg:Bool}{ks:List LK}(hop:o.op=.binOp op t x y yt)(hc:cOp P o.op=some (.eqd neg agg ks x' y'))(H:HR m h w)(hρ:∀x∈o.op.operands,VR m (ρ x) (ρ' x))
  (hr:(AOp.eqd neg agg ks x' y').run lim ρ h=some (v,h')):Done P lim o ρ' m h w v h':=by
 rw[hop] at hρ hc;obtain⟨rfl,rfl,hneg,⟨d,hl,hd⟩,ha,hg,hks⟩:=cBin_eqd (by simpa[cOp] using hc);have h1:=hρ x' (by simp[Op.operands]);have h2:=hρ y' (by simp[Op.operands]);simp only[AOp.run,Option.map_eq_some_iff,Prod.mk.injEq] at hr;obtain⟨g,hg',rfl,rfl⟩:=hr
 have key:ρ' x'=ρ x'/\ρ' y'=ρ y'/\(Op.equalIn 10000 t (ρ x') (ρ y')).run P w=.ok g w/\(∀op,(eqGuard op t x' y' (ρ x') (ρ y')).run P w=.ok () w) /\
   binOp .eql t (ρ x') (ρ y')=(do Pure.pure (Value.bool (<- Op.equal t (ρ x') (ρ y'))))/\binOp .neq t (ρ x') (ρ y')=(do Pure.pure (Value.bool (!(<- Op.equal t (ρ x') (ρ y'))))):=by
  obtain⟨a,ea⟩:∃a,ρ x'=a:=⟨_,rfl⟩;obtain⟨b,eb⟩:∃b,ρ y'=b:=⟨_,rfl⟩;rw[ea,eb] at hg' ⊢;rw[ea] at h1; rw[eb] at h2;obtain⟨n,hn⟩:∃n,10000=n+(d+1):=⟨10000-(d+1),by omega⟩;cases agg with
  | true =>
   unfold eqV at hg';split at hg'
   ·rename_i xs ys _;obtain⟨u1,hu1⟩:∃u,ρ' x'=u:=⟨_,rfl⟩;obtain⟨u2,hu2⟩:∃u,ρ' y'=u:=⟨_,rfl⟩;rw[hu1] at h1 ⊢; rw[hu2] at h2 ⊢;cases h1 with
    | agg n1 k1 =>
     rename_i xs';cases h2 with
     | agg n2 k2 =>
      rename_i ys';obtain⟨f1,f2⟩:=lksEq_same hg' (LR.arr.2 ⟨n1,k1⟩) (LR.arr.2 ⟨n2,k2⟩);have f1:=Array.ext' f1;have f2:=Array.ext' f2;subst f1 f2;refine⟨rfl,rfl,?_,fun op=>run_eqGuard_agg w op t x' y' _ _ (hg rfl),rfl,rfl⟩;rw[hn];exact leaves_ok (d+1) n t ks hl w _ _ g _ _ hg' (by unfold Form; rw[ha,if_pos rfl]) (by unfold Form; rw[ha,if_pos rfl])
   ·cases hg'
   ·exact absurd ‹true=false› (by simp)
  | false =>
   replace hg':lksEq ks [a] [b]=some g:=hg';obtain⟨f1,f2⟩:=lksEq_same hg' (.cons h1 .nil) (.cons h2 .nil);simp only[List.cons.injEq,and_true] at f1 f2
   have hb:∃p q,a=.bool p/\b=.bool q:=by
    have hks:=hks rfl;subst hks;simp only[lksEq] at hg';cases hk:lkEq .bool a b with
    | none=>simp[hk] at hg'
    | some c=>obtain⟨p,q,e1,e2,-⟩:=lkEq_bool hk; exact⟨p,q,e1,e2⟩
   obtain⟨p,q,rfl,rfl⟩:=hb;refine⟨f1,f2,?_,fun op=>by rw[eqGuard_at_bool]; rfl,rfl,rfl⟩;rw[hn];exact leaves_ok (d+1) n t ks hl w _ _ g _ _ hg' (by unfold Form; rw[ha,if_neg (by simp)]) (by unfold Form; rw[ha,if_neg (by simp)])
 obtain⟨e1,e2,heq,hgd,hb1,hb2⟩:=key;refine Done.pure (v':=.bool (if neg then !g else g)) H ?_ (.bool _);simp only[execOp,hop,e1,e2];refine runV ?_;have heq':(Op.equal t (ρ x') (ρ y')).run P w=.ok g w:=heq;simp only[Sem.run_bind,hgd,Result.andThen_ok];rcases hneg with⟨rfl,rfl⟩ | ⟨rfl,rfl⟩
 ·rw[hb1]; simp[heq']
 ·rw[hb2]; simp[heq']
end
section
variable [Start]
variable {P:Program}{lim:Nat}{m:Mp}{h:Hp}{w w':World}
theorem HR.heap {h:Hp}(H:HR m h w)(he:w'.heap=w.heap):HR m h w' :=
 ⟨H.gl.of (by rw[he]; exact Nat.le_refl _) (fun _ _ _=>by rw[he]) (fun b p e ho=>Or.inr ⟨b,p,e,ho,rfl⟩),fun b p e=>by rw[he]; exact H.dom b p e,fun b p k e f=>(H.blk b p k e f).same (by rw[he]),H.inj,H.off⟩
theorem Step.heap (he:w'.heap=w.heap)(h1:w'.os=w.os)(h2:w'.tape=w.tape)(h3:w'.output=w.output):Step lim m h w m h w' :=
 ⟨Sub.refl m,fun b p e e'=>by rw[e] at e'; exact absurd e' (by simp),Nat.le_refl _,fun _ _ _=>rfl,fun _ _ _=>by rw[he],by rw[he]; exact Nat.le_refl _,h1,h2,h3,
  fun l _ hL b p k hb e f=>(hL b p k hb e f).same (by rw[he])⟩
def ins (m:Mp)(n:Nat)(p:Pl):Mp:=fun b=>if b=n then some p else m b
theorem ins_self (m:Mp)(n:Nat)(p:Pl):ins m n p n=some p:=by simp[ins]
theorem ins_sub (H:HR m h w)(p:Pl):Sub m (ins m h.length p):=by
 intro b q e;unfold ins;rw[if_neg,e];have:=(H.dom b q e).1;omega
theorem ins_inv {m:Mp}{n b:Nat}{p q:Pl}(e:ins m n p b=some q):(b=n/\q=p)\/(b≠n/\m b=some q):=by
 unfold ins at e;split at e
 ·rename_i hb; cases e; exact Or.inl ⟨hb,rfl⟩
 ·rename_i hb; exact Or.inr ⟨hb,e⟩
theorem cut_ins {m:Mp}{n l:Nat}{p:Pl}(hl:l<=n):cut l (ins m n p)=cut l m:=by
 funext b
 unfold cut ins;split
 ·rw[if_neg (by omega)]
 ·rfl
theorem get_push {h:Hp}{k:Blk}{b:Nat}(hb:b<h.length):(h++[k])[b]?=h[b]?:=by rw[List.getElem?_append_left hb]
theorem get_new {h:Hp}{k:Blk}:(h++[k])[h.length]?=some k:=by simp
theorem ins_off (H:HR m h w){n:Nat}{p:Pl}(hz:p.own=true->p.base=0):∀b q,ins m n p b=some q->q.own=true->q.base=0:=fun b q e ho=>by
 rcases ins_inv e with⟨rfl,rfl⟩ | ⟨_,e⟩
 ·exact hz ho
 ·exact H.off b q e ho
theorem new_step (H:HR m h w)(hl:lim<=h.length)(k:Blk)(p:Pl)(hc:p.c=w.heap.size)(hs:w'.heap.size=w.heap.size+1)(hk:∀c,c<w.heap.size->w'.heap[c]?=w.heap[c]?)
  (h1:w'.os=w.os)(h2:w'.tape=w.tape)(h3:w'.output=w.output)(hb:BR (ins m h.length p) w' p k)(hz:p.own=true->p.base=0:=by intro _; rfl) :
  HR (ins m h.length p) (h++[k]) w'/\Step lim m h w (ins m h.length p) (h++[k]) w':=by
 have hsub:=ins_sub H p
 have gl:Gl (ins m h.length p) w':=H.gl.of (by omega) (fun c hc' _=>hk c hc') fun b q e ho=>by
  rcases ins_inv e with⟨rfl,rfl⟩ | ⟨_,e⟩
  ·exact Or.inl (by omega)
  ·exact Or.inr ⟨b,q,e,ho,rfl⟩
 refine⟨⟨gl,fun b q e=>?_,fun b q k' e f=>?_,fun b b' q q' e e' f f' g ho=>?_,ins_off H hz⟩,⟨hsub,fun b q e e'=>?_,by simp,fun b hb' e=>get_push hb',fun c hc' _=>hk c hc',by omega,h1,h2,h3,fun l hl' hL b q k' hb' e f=>?_⟩⟩
 ·rcases ins_inv e with⟨rfl,rfl⟩ | ⟨_,e⟩
  ·exact⟨by simp,by omega⟩
  ·have:=H.dom b q e;exact⟨by simp; omega,by omega⟩
 ·rcases ins_inv e with⟨rfl,rfl⟩ | ⟨_,e⟩
  ·rw[get_new] at f; cases f; exact hb
  ·have hd:=H.dom b q e;rw[get_push hd.1] at f;exact((H.blk b q k' e f).mono hsub).same (hk _ hd.2)
 ·rcases ins_inv e with⟨x1,x2⟩ | ⟨_,y1⟩
  ·rcases ins_inv e' with⟨x3,x4⟩ | ⟨_,y2⟩
   ·rw[x1,x3]
   ·have:=(H.dom b' q' y2).2;rw[x2] at g;omega
  ·rcases ins_inv e' with⟨x3,x4⟩ | ⟨_,y2⟩
   ·have:=(H.dom b q y1).2;rw[x4] at g;omega
   ·rw[get_push (H.dom b q y1).1] at f;rw[get_push (H.dom b' q' y2).1] at f';exact H.inj b b' q q' y1 y2 f f' g ho
 ·rcases ins_inv e with⟨rfl,rfl⟩ | ⟨_,e⟩
  ·exact⟨Nat.le_refl _,Or.inl (by omega)⟩
  ·rw[e] at e'; cases e'
 ·have hll:l<=h.length:=Nat.le_trans hl' hl;rw[cut_ins hll];rcases ins_inv e with⟨rfl,rfl⟩ | ⟨_,e⟩
  ·omega
  ·have hd:=H.dom b q e;rw[get_push hd.1] at f;exact(hL b q k' hb' e f).same (hk _ hd.2)
theorem write_step (H:HR m h w){b:Nat}{p:Pl}{k k':Blk}(hm:m b=some p)(hb:h[b]?=some k)(hlive:k≠.dead)(ho:p.own=true)
  (hs:w'.heap.size=w.heap.size)(hk:∀c,c≠p.c->w'.heap[c]?=w.heap[c]?)(h1:w'.os=w.os)(h2:w'.tape=w.tape)(h3:w'.output=w.output)
  (hB:BR m w' p k')(hlow:b<lim->∀l,l<=lim->b<l->BR (cut l m) w p k->BR (cut l m) w' p k') :
  HR m (h.set b k') w'/\Step lim m h w m (h.set b k') w':=by
 have hbl:b<h.length:=(H.dom b p hm).1
 have hother:∀b' q k2,b'≠b->m b'=some q->h[b']?=some k2->k2=.dead\/q.c≠p.c:=by
  intro b' q k2 hne e f
  by_cases hd:k2=.dead
  ·exact Or.inl hd
  ·refine Or.inr fun hc=>hne ?_;exact(H.inj b b' p q hm e (by rw[hb]; simpa using hlive) (by rw[f]; simpa using hd) hc.symm ho).symm
 have hget:∀b',(h.set b k')[b']?=if b'=b then some k' else h[b']?:=by
  intro b'
  by_cases e:b'=b
  ·subst e; simp[hbl]
  ·rw[List.getElem?_set_ne (Ne.symm e),if_neg e]
 refine⟨⟨H.gl.of (by omega) (fun c _ hn=>hk c (fun hcp=>hn b p hm ho hcp.symm)) (fun b p e ho=>Or.inr ⟨b,p,e,ho,rfl⟩),fun b' q e=>?_,fun b' q k2 e f=>?_,fun b1 b2 q1 q2 e1 e2 f1 f2 g go=>?_,H.off⟩,⟨Sub.refl m,fun b' q e e'=>by rw[e] at e'; exact absurd e' (by simp),by simp,fun b' _ e=>?_,fun c hc hn=>hk c (fun hcp=>hn b p hm ho hcp.symm),by omega,h1,h2,h3,fun l hl hL b' q k2 hb' e f=>?_⟩⟩
 ·have:=H.dom b' q e;exact⟨by simpa using this.1,by omega⟩
 ·rw[hget] at f;split at f
  ·rename_i hbb; subst hbb;rw[hm] at e; cases e; cases f; exact hB
  ·rename_i hne;rcases hother b' q k2 hne e f with rfl | hc
   ·trivial
   ·exact(H.blk b' q k2 e f).same (hk _ hc)
 ·have hl1:h[b1]?≠some .dead:=by
   rw[hget] at f1;split at f1
   ·rename_i hbb; subst hbb; rw[hb]; simpa using hlive
   ·exact f1
  have hl2:h[b2]?≠some .dead:=by
   rw[hget] at f2;split at f2
   ·rename_i hbb; subst hbb; rw[hb]; simpa using hlive
   ·exact f2
  exact H.inj b1 b2 q1 q2 e1 e2 hl1 hl2 g go
 ·rw[hget,if_neg];rintro rfl;rw[hm] at e; cases e
 ·rw[hget] at f;split at f
  ·rename_i hbb; subst hbb;rw[hm] at e; cases e; cases f;exact hlow (Nat.lt_of_lt_of_le hb' hl) l hl hb' (hL b' p k hb' hm hb)
  ·rename_i hne;rcases hother b' q k2 hne e f with rfl | hc
   ·trivial
   ·exact(hL b' q k2 hb' e f).same (hk _ hc)
theorem kill_step (H:HR m h w){b:Nat}{p:Pl}{k:Blk}(hm:m b=some p)(hb:h[b]?=some k)(hlive:k≠.dead)(ho:p.own=true) :
  HR m (h.set b .dead) w/\Step lim m h w m (h.set b .dead) w :=
 write_step H hm hb hlive ho rfl (fun _ _=>rfl) rfl rfl rfl trivial (fun _ _ _ _ _=>trivial)
theorem adopt_step (H:HR m h w)(hl:lim<=h.length)(k:Blk)(p:Pl)(b0:Nat)(p0:Pl)(hm:m b0=some p0)(ho:p0.own=true)(hc:p0.c=p.c)
  (hdead:∀b q,m b=some q->q.c=p.c->h[b]?=some .dead)(hs:w'.heap.size=w.heap.size)(hk:∀c,c≠p.c->w'.heap[c]?=w.heap[c]?)
  (h1:w'.os=w.os)(h2:w'.tape=w.tape)(h3:w'.output=w.output)(hb:BR (ins m h.length p) w' p k)(hz:p.own=true->p.base=0) :
  HR (ins m h.length p) (h++[k]) w'/\Step lim m h w (ins m h.length p) (h++[k]) w':=by
 have hsub:=ins_sub H p
 have gl:Gl (ins m h.length p) w':=H.gl.of (by omega) (fun c hc' hn=>hk c (fun hcp=>hn b0 p0 hm ho (hc.trans hcp.symm))) fun b q e ho'=>by
  rcases ins_inv e with⟨rfl,rfl⟩ | ⟨_,e⟩
  ·exact Or.inr ⟨b0,p0,hm,ho,hc⟩
  ·exact Or.inr ⟨b,q,e,ho',rfl⟩
 refine⟨⟨gl,fun b q e=>?_,fun b q k' e f=>?_,fun b b' q q' e e' f f' g go=>?_,ins_off H hz⟩,⟨hsub,fun b q e e'=>?_,by simp,fun b hb' e=>get_push hb',fun c hc' hn=>hk c (fun hcp=>hn b0 p0 hm ho (hc.trans hcp.symm)),by omega,h1,h2,h3,fun l hl' hL b q k' hb' e f=>?_⟩⟩
 ·rcases ins_inv e with⟨rfl,rfl⟩ | ⟨_,e⟩
  ·have:=(H.dom b0 p0 hm).2;exact⟨by simp,by omega⟩
  ·have:=H.dom b q e;exact⟨by simp; omega,by omega⟩
 ·rcases ins_inv e with⟨rfl,rfl⟩ | ⟨_,e⟩
  ·rw[get_new] at f; cases f; exact hb
  ·have hd:=H.dom b q e;rw[get_push hd.1] at f
   by_cases hcc:q.c=p.c
   ·have:=hdead b q e hcc;rw[f] at this; cases this; trivial
   ·exact((H.blk b q k' e f).mono hsub).same (hk _ hcc)
 ·rcases ins_inv e with⟨x1,x2⟩ | ⟨_,y1⟩
  ·rcases ins_inv e' with⟨x3,x4⟩ | ⟨_,y2⟩
   ·rw[x1,x3]
   ·rw[get_push (H.dom b' q' y2).1] at f';rw[x2] at g;exact absurd (hdead b' q' y2 g.symm) f'
  ·rcases ins_inv e' with⟨x3,x4⟩ | ⟨_,y2⟩
   ·rw[get_push (H.dom b q y1).1] at f;rw[x4] at g;exact absurd (hdead b q y1 g) f
   ·rw[get_push (H.dom b q y1).1] at f;rw[get_push (H.dom b' q' y2).1] at f';exact H.inj b b' q q' y1 y2 f f' g go
 ·rcases ins_inv e with⟨rfl,rfl⟩ | ⟨_,e⟩
  ·exact⟨Nat.le_refl _,Or.inr ⟨b0,p0,hm,ho,hc⟩⟩
  ·rw[e] at e'; cases e'
 ·have hll:l<=h.length:=Nat.le_trans hl' hl;rw[cut_ins hll];rcases ins_inv e with⟨rfl,rfl⟩ | ⟨_,e⟩
  ·omega
  ·have hd:=H.dom b q e;rw[get_push hd.1] at f
   by_cases hcc:q.c=p.c
   ·have:=hdead b q e hcc;rw[f] at this; cases this; trivial
   ·exact(hL b q k' hb' e f).same (hk _ hcc)
theorem cells_new {m':Mp}{cs:List Value}{cs':Array Value}{el:TypeId}(hn:cs.length<=cs'.size)(hv:∀i,i<cs.length->VR m' (cs.getD i undef) (cs'.getD i undef)) :
  BR m' (w.alloc (.cells cs' el)) ⟨w.heap.size,0,cs'.size,true⟩ (.cells true cs):=by
 refine⟨rfl,fun i hi=>?_,fun _=>⟨hn,fun i hi=>?_⟩⟩
 ·have h2:i<cs'.size:=by omega
  refine⟨cs'.getD i undef,?_,hv i hi⟩;simp[h2,Array.getD_eq_getD_getElem?]
 ·refine⟨⟨cs'.getD i undef,?_⟩,?_⟩
  ·have h2:i<cs'.size:=hi;simp[h2,Array.getD_eq_getD_getElem?]
  ·simp
theorem rd_cell (H:HR m h w){b o:Nat}{v:Value}(hr:rdC h b o=some v){p:Pl}(hm:m b=some p):∃v',w.cell? ⟨p.c,p.base+o,none⟩=some v'/\VR m v v':=by
 unfold rdC at hr;split at hr
 ·rename_i own cs hb;obtain⟨-,hc,-⟩:=H.blk b p _ hm hb;obtain⟨ho,rfl⟩:=List.getElem?_eq_some_iff.1 hr;obtain⟨v',h1,h2⟩:=hc o ho;exact⟨v',h1,by simpa[List.getD_eq_getElem?_getD,ho] using h2⟩
 ·cases hr
theorem rd_cells (H:HR m h w){b o n:Nat}{cs:List Value}(hr:rdN h b o n=some cs){p:Pl}(hm:m b=some p) :
  cs.length=n/\∃f:Nat->Value,(∀i,i<n->w.cell? ⟨p.c,p.base+o+i,none⟩=some (f i))/\LR m cs ((List.range n).map f):=by
 unfold rdN at hr;split at hr
 ·rename_i own ks hb;split at hr
  ·rename_i hfit;cases hr;obtain⟨-,hc,-⟩:=H.blk b p _ hm hb
   have hex:∀i,i<n->∃v',w.cell? ⟨p.c,p.base+o+i,none⟩=some v'/\VR m (ks.getD (o+i) undef) v':=by
    intro i hi;have:=hc (o+i) (by omega)
    rwa [<- Nat.add_assoc] at this
   refine⟨by simp; omega,fun i=>(w.cell? ⟨p.c,p.base+o+i,none⟩).getD undef,fun i hi=>?_,?_⟩
   ·obtain⟨v',h1,_⟩:=hex i hi;simp[h1]
   ·refine⟨by simp; omega,fun i hi=>?_⟩;simp only[List.length_take,List.length_drop] at hi;have hin:i<n:=by omega
    obtain⟨v',h1,h2⟩:=hex i hin;have e1:((List.drop o ks).take n).getD i undef=ks.getD (o+i) undef:=by simp[List.getD_eq_getElem?_getD,List.getElem?_take,hin,List.getElem?_drop]
    have e2:((List.range n).map fun i=>(w.cell? ⟨p.c,p.base+o+i,none⟩).getD undef).getD i undef=v':=by simp[List.getD_eq_getElem?_getD,hin,h1]
    rw[e1,e2]; exact h2
  ·cases hr
 ·cases hr
theorem heap_setCells (b:Nat):∀(vs:List Value) (o:Nat) (w:World),(w.setCells b o vs).heap.size=w.heap.size/\(∀c,c≠b->(w.setCells b o vs).heap[c]?=w.heap[c]?) /\
  (w.setCells b o vs).os=w.os/\(w.setCells b o vs).tape=w.tape/\(w.setCells b o vs).output=w.output:=by
 intro vs
 induction vs with
 | nil=>intro o w; exact⟨rfl,fun _ _=>rfl,rfl,rfl,rfl⟩
 | cons v vs ih =>
  intro o w;obtain⟨h1,h2,h3,h4,h5⟩:=ih (o+1) (w.setCell ⟨b,o,none⟩ v);rw[World.setCells];refine⟨by rw[h1]; simp,fun c hc=>?_,h3,h4,h5⟩;rw[h2 c hc,Go.RowKit.Below.heap_setCell w ⟨b,o,none⟩ v c hc]
theorem lay_get:∀(vs cs:List Value) (o i:Nat),o+vs.length<=cs.length->(lay cs o vs)[i]?=if o<=i/\i<o+vs.length then vs[i-o]? else cs[i]?:=by
 intro vs
 induction vs with
 | nil=>intro cs o i h; rw[lay,if_neg (by simp)]
 | cons v vs ih =>
  intro cs o i h;simp only[List.length_cons] at h;rw[lay,ih _ _ _ (by simp; omega)]
  by_cases h1:o+1<=i/\i<o+1+vs.length
  ·rw[if_pos h1,if_pos (by simp; omega)];rw[show i-o=(i-(o+1))+1 by omega];simp
  ·rw[if_neg h1]
   by_cases h2:i=o
   ·subst h2;rw[if_pos (by simp)];simp[show i<cs.length by omega]
   ·rw[if_neg (by simp; omega),List.getElem?_set_ne (Ne.symm h2)]
theorem lay_len1:∀(vs cs:List Value) (o:Nat),(lay cs o vs).length=cs.length:=by
 intro vs
 induction vs with
 | nil=>intro cs o; rfl
 | cons v vs ih=>intro cs o; rw[lay,ih]; simp
theorem cells_write {m':Mp}{p:Pl}{cs vs vs':List Value}{o:Nat}(hC:CellsR m' w p cs)(ho:p.own=true)(hfit:o+vs.length<=cs.length)(hv:LR m' vs vs') :
  CellsR m' (w.setCells p.c (p.base+o) vs') p (lay cs o vs):=by
 obtain⟨hc,hlim⟩:=hC;obtain⟨hl1,hl2⟩:=hlim ho;have hn:vs'.length=vs.length:=hv.1.symm
 have hold:∀j,j<vs'.length->(w.cell? ⟨p.c,p.base+o+j,none⟩).isSome=true:=by
  intro j hj;obtain⟨v',e⟩:=(hl2 (o+j) (by omega)).1;rw[Nat.add_assoc,e]; rfl
 have hcell:∀i,i<p.lim->(w.setCells p.c (p.base+o) vs').cell? ⟨p.c,p.base+i,none⟩=if o<=i/\i<o+vs.length then vs'[i-o]? else w.cell? ⟨p.c,p.base+i,none⟩:=by
  intro i hi
  by_cases h1:o<=i/\i<o+vs.length
  ·rw[if_pos h1];have:=World.cell?_setCells_in p.c vs' (p.base+o) w hold (i-o) (by omega);rw[show p.base+o+(i-o)=p.base+i by omega] at this;rw[this,List.getElem?_eq_getElem (by omega)]
  ·rw[if_neg h1];exact World.cell?_setCells_out p.c vs' (p.base+o) w _ (fun _ _=>by simp; omega)
 refine⟨fun i hi=>?_,fun _=>⟨by rw[lay_len1]; exact hl1,fun i hi=>⟨?_,?_⟩⟩⟩
 ·rw[lay_len1] at hi;rw[hcell i (by omega)];have hg:=lay_get vs cs o i hfit
  by_cases h1:o<=i/\i<o+vs.length
  ·rw[if_pos h1] at hg ⊢;have:=hv.2 (i-o) (by omega);refine⟨vs'[i-o]'(by omega),by simp,?_⟩;have e1:(lay cs o vs).getD i undef=vs.getD (i-o) undef:=by simp[List.getD_eq_getElem?_getD,hg]
   rw[e1];have hlt:i-o<vs'.length:=by omega
   simpa[List.getD_eq_getElem?_getD,hlt] using this
  ·rw[if_neg h1] at hg ⊢;obtain⟨v',e1,e2⟩:=hc i hi;exact⟨v',e1,by simpa[List.getD_eq_getElem?_getD,hg] using e2⟩
 ·rw[hcell i hi];split
  ·exact⟨vs'[i-o]'(by omega),by simp⟩
  ·exact(hl2 i hi).1
 ·rw[World.frozen?_setCells]; exact(hl2 i hi).2
end
section
variable [Start]
variable {P:Program}{lim:Nat}{o:Oper}{ρ ρ':Operand->Value}{m:Mp}{h h':Hp}{w:World}{v:Value}
theorem run_loadN {a:Addr}{n:Nat}{f:Nat->Value}(hf:∀i,i<n->w.cell? ⟨a.block,a.off+i,none⟩=some (f i))(hs:a.spot=none):(loadCells a n).run P w=.ok ((List.range n).map f).toArray w:=by
 refine run_loadCells w a n f fun j hj=>?_;obtain⟨b,o,s⟩:=a;simp only at hs;subst hs;rw[add_lit'];exact hf j hj
theorem sim_ld {t:TypeId}{a:Operand}(hop:o.op=.load t a)(hc:cOp P o.op=some (.ld a))(H:HR m h w)(hρ:∀x∈o.op.operands,VR m (ρ x) (ρ' x))
  (hr:(AOp.ld a).run lim ρ h=some (v,h')):Done P lim o ρ' m h w v h':=by
 rw[hop] at hρ hc;simp only[Op.operands,List.mem_toArray,List.mem_cons,List.not_mem_nil,or_false] at hρ;have h1:=hρ a rfl;simp only[cOp] at hc;split at hc
 ·cases hc
 ·rename_i n ha hn;simp only[AOp.run] at hr;split at hr
  ·rename_i b o' e;rw[e] at h1;simp only[Option.map_eq_some_iff,Prod.mk.injEq] at hr;obtain⟨x,hx,rfl,rfl⟩:=hr;obtain⟨u,hu⟩:∃u,ρ' a=u:=⟨_,rfl⟩;rw[hu] at h1;cases h1 with
   | ptr hm =>
    obtain⟨v',e1,e2⟩:=rd_cell H hx hm;refine Done.pure H ?_ e2;simp only[execOp,hop,hu];refine runV ?_;simp only[Instr.loadAt,Instr.sureAddr,loadVar,Sem.run_bind,Sem.run_pure,Result.andThen_ok,run_isAgg' ha,Bool.false_eq_true,if_false,run_load,e1]
  ·cases hr
 ·cases hc
theorem sim_ldn {t:TypeId}{n:Nat}{a:Operand}(hop:o.op=.load t a)(hc:cOp P o.op=some (.ldn n a))(H:HR m h w)(hρ:∀x∈o.op.operands,VR m (ρ x) (ρ' x))
  (hr:(AOp.ldn n a).run lim ρ h=some (v,h')):Done P lim o ρ' m h w v h':=by
 rw[hop] at hρ hc;simp only[Op.operands,List.mem_toArray,List.mem_cons,List.not_mem_nil,or_false] at hρ;have h1:=hρ a rfl;simp only[cOp] at hc;split at hc
 ·rename_i n' ha hn;simp only[Option.some.injEq,AOp.ldn.injEq,and_true] at hc;subst hc;simp only[AOp.run] at hr;split at hr
  ·rename_i b o' e;rw[e] at h1;simp only[Option.map_eq_some_iff,Prod.mk.injEq] at hr;obtain⟨x,hx,rfl,rfl⟩:=hr;obtain⟨u,hu⟩:∃u,ρ' a=u:=⟨_,rfl⟩;rw[hu] at h1;cases h1 with
   | ptr hm =>
    obtain⟨hl,f,e1,e2⟩:=rd_cells H hx hm;refine Done.pure H ?_ (LR.aggL e2);simp only[execOp,hop,hu];refine runV ?_;simp only[Instr.loadAt,Instr.sureAddr,loadVar,Sem.run_bind,Sem.run_pure,Result.andThen_ok,run_isAgg' ha,if_true,run_sizeOf' hn,run_loadN (P:=P) (w:=w) (a:=⟨_,_,none⟩) e1 rfl]
  ·cases hr
 ·cases hc
 ·cases hc
theorem bytesOf_inv {l:List Value}:∀ {bs:List UInt8},bytesOf l=some bs->∃ns:List Int,l=ns.map (Value.int .u8)/\bs=ns.map fun n=>UInt8.ofNat n.toNat:=by
 induction l with
 | nil=>intro bs hb; cases hb; exact⟨[],rfl,rfl⟩
 | cons x l ih =>
  intro bs hb;unfold bytesOf at hb;split at hb
  ·rename_i e; cases e
  ·rename_i n l2 e;cases e;simp only[Option.map_eq_some_iff] at hb;obtain⟨bs,hb,rfl⟩:=hb;obtain⟨ns,rfl,rfl⟩:=ih hb;exact⟨n::ns,rfl,rfl⟩
  ·cases hb
theorem LR.ints {k:IntKind}:∀ {ns:List Int} {l':List Value},LR m (ns.map (Value.int k)) l'->l'=ns.map (Value.int k):=by
 intro ns
 induction ns with
 | nil=>intro l' h; exact h.cases_nil
 | cons n ns ih =>
  intro l' h;obtain⟨y,l',rfl,h1,h2⟩:=h.cases_cons;rw[h1.int',ih h2]; rfl
theorem fold_push:∀(ns:List Int) (s:ByteArray),(ns.foldl (fun r n=>r.push (UInt8.ofNat n.toNat)) s)=⟨(s.data.toList++ns.map fun n=>UInt8.ofNat n.toNat).toArray⟩:=by
 intro ns
 induction ns with
 | nil=>intro s; simp
 | cons n ns ih =>
  intro s;rw[List.foldl_cons,ih]
  congr 1
  apply Array.ext';simp[ByteArray.push]
theorem sim_b2s {s d e:TypeId}{x:Operand}(hop:o.op=.convert s d x)(e1:P.underlying s=some (.slice e))(e2:P.underlying d=some .string)(e3:P.underlying e=some (.int .u8))(H:HR m h w)(hρ:∀x∈o.op.operands,VR m (ρ x) (ρ' x))
  (hr:(AOp.b2s x).run lim ρ h=some (v,h')):Done P lim o ρ' m h w v h':=by
 rw[hop] at hρ;simp only[Op.operands,List.mem_toArray,List.mem_cons,List.not_mem_nil,or_false] at hρ;have h1:=hρ x rfl
 have hrun:∀(a:Option Addr) (l c:Nat),ρ' x=.slice a l c->∀r,(Conv.bytesToString (.slice a l c)).run P w=.ok r w->(execOp ρ' o).run P w=.ok (.value r) w:=by
  intro a l c hu r hr;simp only[execOp,hop,hu];refine runV ?_;simp only[convert,Sem.run_bind,run_underlying e1,run_underlying e2,Result.andThen_ok,run_underlying e3];exact hr
 simp only[AOp.run] at hr;split at hr
 ·rename_i e;rw[e] at h1;cases hr;obtain⟨u,hu⟩:∃u,ρ' x=u:=⟨_,rfl⟩;rw[hu] at h1;cases h1;exact Done.pure H (hrun _ _ _ hu _ (by simp[Conv.bytesToString])) (.str _)
 ·rename_i b o' n e;rw[e] at h1;simp only[Option.map_eq_some_iff,Option.bind_eq_some_iff,Prod.mk.injEq] at hr;obtain⟨bs,⟨cs,hcs,hbs⟩,rfl,rfl⟩:=hr;obtain⟨u,hu⟩:∃u,ρ' x=u:=⟨_,rfl⟩;rw[hu] at h1
  have fin:∀(p:Pl) (a:Addr) (cap:Nat),m b=some p->(n=0\/a=⟨p.c,p.base+o',none⟩)->u=.slice (some a) n cap->Done P lim o ρ' m h w (.string ⟨bs.toArray⟩) h:=by
   intro p a cap hm ha hu';obtain⟨hl,f,f1,f2⟩:=rd_cells H hcs hm;obtain⟨ns,rfl,rfl⟩:=bytesOf_inv hbs;have f3:=LR.ints f2;subst hu'
   have hload:(loadCells a n).run P w=.ok (ns.map (Value.int .u8)).toArray w:=by
    rw[<- f3];rcases ha with rfl | rfl
    ·rfl
    ·exact run_loadN f1 rfl
   refine Done.pure (v':=.string ⟨(ns.map fun n=>UInt8.ofNat n.toNat).toArray⟩) H (hrun _ _ _ hu _ ?_) (.str _);rw[run_bytesToString w a n cap ns hload,fold_push];simp
  cases h1 with
  | sl hm hl hcc=>exact fin _ _ _ hm (Or.inr rfl) rfl
  | sl0 hm=>exact fin _ _ _ hm (Or.inl rfl) rfl
 ·cases hr
theorem builtin_run {c:Call}{b:Builtin}{xs:List Operand}{ts:List TypeId}(hop:o.op=.call c)(hcb:c.callee=.builtin b)(hargs:c.args.toList=xs)(hts:c.argTypes.toList=ts)
  {s:Array TypeId->Array Value->Sem Value}(hb:∀A T C V,builtin b T A C V=(do Pure.pure (.value (<- s T V)))){r:Value}{w':World}(hr:(s ts.toArray (xs.map ρ').toArray).run P w=.ok r w') :
  (execOp ρ' o).run P w=.ok (.value r) w':=by
 have ha:c.args=xs.toArray:=by apply Array.ext'; simpa using hargs
 have hta:c.argTypes=ts.toArray:=by apply Array.ext'; simpa using hts
 simp only[execOp,hop,resolve,hcb,ha,hta,pure_bind,invoke,hb];refine runV ?_;simpa using hr
theorem call_mem {c:Call}{xs:List Operand}(hargs:c.args.toList=xs){x:Operand}(hx:x∈xs):x∈(Op.call c).operands:=by
 simp only[Op.operands,Call.operands,Array.mem_append]; right; rw[<- Array.mem_toList_iff,hargs]; exact hx
theorem sim_lnT {c:Call}{t:TypeId}{x:Operand}(hop:o.op=.call c)(hcb:c.callee=.builtin .len)(hargs:c.args.toList=[x])(hts:c.argTypes.toList=[t])(ht:P.underlying t=some .string)
  (H:HR m h w)(hρ:∀x∈o.op.operands,VR m (ρ x) (ρ' x))(hr:(AOp.lnT x).run lim ρ h=some (v,h')):Done P lim o ρ' m h w v h':=by
 rw[hop] at hρ;have h1:=hρ x (call_mem hargs (by simp));simp only[AOp.run] at hr;split at hr
 ·rename_i s e;rw[e] at h1;cases hr;refine Done.pure (v':=.int .i64 s.size) H (builtin_run hop hcb hargs hts (s:=fun T V=>Builtin.len_ T o.type V) (fun _ _ _ _=>rfl) ?_) (.int _ _);simp[Builtin.len_,run_underlying ht,goInt,h1.str']
 ·cases hr
theorem sim_lnS {c:Call}{t e:TypeId}{x:Operand}(hop:o.op=.call c)(hcb:c.callee=.builtin .len)(hargs:c.args.toList=[x])(hts:c.argTypes.toList=[t])(ht:P.underlying t=some (.slice e))
  (H:HR m h w)(hρ:∀x∈o.op.operands,VR m (ρ x) (ρ' x))(hr:(AOp.lnS x).run lim ρ h=some (v,h')):Done P lim o ρ' m h w v h':=by
 rw[hop] at hρ;have h1:=hρ x (call_mem hargs (by simp));simp only[AOp.run] at hr;split at hr
 ·rename_i a n cap e;rw[e] at h1;cases hr
  have hu:∃a' cap',ρ' x=.slice a' n cap':=by
   generalize ρ' x=u at h1;cases h1<;>exact⟨_,_,rfl⟩
  obtain⟨a',cap',hu⟩:=hu;refine Done.pure (v':=.int .i64 n) H (builtin_run hop hcb hargs hts (s:=fun T V=>Builtin.len_ T o.type V) (fun _ _ _ _=>rfl) ?_) (.int _ _);simp[Builtin.len_,run_underlying ht,goInt,hu]
 ·cases hr
theorem sim_lnA {c:Call}{t:TypeId}{n:Nat}{x:Operand}(hop:o.op=.call c)(hcb:c.callee=.builtin .len)(hargs:c.args.toList=[x])(hts:c.argTypes.toList=[t])
  (ht:(∃e,P.underlying t=some (.array n e))\/∃a e,P.underlying t=some (.pointer a)/\P.underlying a=some (.array n e))
  (H:HR m h w)(hr:(AOp.lnA n).run lim ρ h=some (v,h')):Done P lim o ρ' m h w v h':=by
 simp only[AOp.run,Option.some.injEq,Prod.mk.injEq] at hr;obtain⟨rfl,rfl⟩:=hr;refine Done.pure (v':=.int .i64 n) H (builtin_run hop hcb hargs hts (s:=fun T V=>Builtin.len_ T o.type V) (fun _ _ _ _=>rfl) ?_) (.int _ _);rcases ht with⟨e,ht⟩ | ⟨a,e,ht,hta⟩
 ·simp[Builtin.len_,run_underlying ht,goInt]
 ·simp[Builtin.len_,run_underlying ht,run_underlying hta,goInt]
theorem sim_lnM {c:Call}{t k e:TypeId}{x:Operand}(hop:o.op=.call c)(hcb:c.callee=.builtin .len)(hargs:c.args.toList=[x])(hts:c.argTypes.toList=[t])(ht:P.underlying t=some (.map k e))
  (H:HR m h w)(hρ:∀x∈o.op.operands,VR m (ρ x) (ρ' x))(hr:(AOp.lnM x).run lim ρ h=some (v,h')):Done P lim o ρ' m h w v h':=by
 rw[hop] at hρ;have h1:=hρ x (call_mem hargs (by simp));obtain⟨u,hu⟩:∃u,ρ' x=u:=⟨_,rfl⟩;rw[hu] at h1;simp only[AOp.run] at hr;split at hr
 ·rename_i e;rw[e] at h1;cases hr;cases h1;refine Done.pure (v':=.int .i64 0) H (builtin_run hop hcb hargs hts (s:=fun T V=>Builtin.len_ T o.type V) (fun _ _ _ _=>rfl) ?_) (.int _ _);simp[Builtin.len_,run_underlying ht,goInt,hu]
 ·rename_i b e;rw[e] at h1;split at hr
  ·rename_i es hb;cases hr;cases h1 with
   | map hm =>
    obtain⟨-,es',ck,hh,hn,-⟩:=H.blk _ _ _ hm hb;refine Done.pure (v':=.int .i64 es.length) H (builtin_run hop hcb hargs hts (s:=fun T V=>Builtin.len_ T o.type V) (fun _ _ _ _=>rfl) ?_) (.int _ _);simp[Builtin.len_,run_underlying ht,goInt,hu,getObj,Sem.run,hh,hn]
  ·cases hr
 ·cases hr
theorem foldV_run {g:Value->Value->Option Value}{G:Value->Value->Sem Value}(hg:∀a b c,g a b=some c->(∀w:World,(G a b).run P w=.ok c w)/\(∃k n,a=.int k n)/\(∃k n,b=.int k n)/\∃k n,c=.int k n) :
  ∀(l l':List Value) (x v:Value),foldV g x l=some v->(∃k n,x=.int k n)->LR m l l'->(∃k n,v=.int k n)/\∀w:World,(l'.foldlM G x).run P w=.ok v w:=by
 intro l
 induction l with
 | nil =>
  intro l' x v hv hx hl;obtain rfl:=hl.cases_nil;cases hv;exact⟨hx,fun w=>by simp⟩
 | cons y l ih =>
  intro l' x v hv hx hl;obtain⟨y',l',rfl,h1,h2⟩:=hl.cases_cons;unfold foldV at hv;split at hv
  ·rename_i z hz;obtain⟨g1,g2,⟨k,n,rfl⟩,g4⟩:=hg _ _ _ hz;obtain⟨i1,i2⟩:=ih l' z v hv g4 h2;refine⟨i1,fun w=>?_⟩;rw[h1.int',List.foldlM_cons];simp only[Sem.run_bind,g1 w,Result.andThen_ok,i2 w]
  ·cases hv
theorem sim_mm {c:Call}{b:Builtin}{xs:List Operand}{ts:List TypeId}{g:Value->Value->Option Value}{G:Value->Value->Sem Value}(hop:o.op=.call c)(hcb:c.callee=.builtin b)(hargs:c.args.toList=xs)(hts:c.argTypes.toList=ts)
  (hB:∀A T C (V:Array Value) x l,V.toList=x::l->builtin b T A C V=(do Pure.pure (.value (<- l.foldlM G x))))
  (hg:∀a b c,g a b=some c->(∀w:World,(G a b).run P w=.ok c w)/\(∃k n,a=.int k n)/\(∃k n,b=.int k n)/\∃k n,c=.int k n)
  (H:HR m h w)(hρ:∀x∈o.op.operands,VR m (ρ x) (ρ' x)){x:Value}{l:List Value}(hx:xs.map ρ=x::l)(hm:mini x=true)(hr:foldV g x l=some v):Done P lim o ρ' m h w v h:=by
 rw[hop] at hρ;have hL:LR m (xs.map ρ) (xs.map ρ'):=LR.map fun y hy=>hρ y (call_mem hargs hy);rw[hx] at hL;obtain⟨x',l',e,h1,h2⟩:=hL.cases_cons
 have hxi:∃k n,x=.int k n:=by
  unfold mini at hm;split at hm
  ·exact⟨_,_,rfl⟩
  ·cases hm
 obtain⟨⟨k,n,rfl⟩,hrun⟩:=foldV_run hg l l' x v hr hxi h2;obtain rfl:x'=x:=by obtain⟨k,n,rfl⟩:=hxi; exact h1.int'
 refine Done.pure (v':=.int k n) H ?_ (.int _ _);have ha:c.args=xs.toArray:=by apply Array.ext'; simpa using hargs
 simp only[execOp,hop,resolve,hcb,ha,pure_bind,invoke];rw[hB o.type c.argTypes _ (xs.toArray.map ρ') x' l' (by simpa using e)];exact runV (hrun w)
theorem mn2_ok (a b c:Value)(hg:mn2 a b=some c):(∀w:World,(Builtin.min2 a b).run P w=.ok c w)/\(∃k n,a=.int k n)/\(∃k n,b=.int k n)/\∃k n,c=.int k n:=by
 unfold mn2 at hg;split at hg
 ·split at hg
  ·rename_i hk; subst hk; cases hg;exact⟨fun w=>by simp[Builtin.min2],⟨_,_,rfl⟩,⟨_,_,rfl⟩,⟨_,_,rfl⟩⟩
  ·cases hg
 ·cases hg
theorem mx2_ok (a b c:Value)(hg:mx2 a b=some c):(∀w:World,(Builtin.max2 a b).run P w=.ok c w)/\(∃k n,a=.int k n)/\(∃k n,b=.int k n)/\∃k n,c=.int k n:=by
 unfold mx2 at hg;split at hg
 ·split at hg
  ·rename_i hk; subst hk; cases hg;exact⟨fun w=>by simp[Builtin.max2],⟨_,_,rfl⟩,⟨_,_,rfl⟩,⟨_,_,rfl⟩⟩
  ·cases hg
 ·cases hg
theorem sim_mn {c:Call}{xs:List Operand}{ts:List TypeId}(hop:o.op=.call c)(hcb:c.callee=.builtin .min)(hargs:c.args.toList=xs)(hts:c.argTypes.toList=ts)
  (H:HR m h w)(hρ:∀x∈o.op.operands,VR m (ρ x) (ρ' x))(hr:(AOp.mnV xs).run lim ρ h=some (v,h')):Done P lim o ρ' m h w v h':=by
 simp only[AOp.run] at hr;split at hr
 ·rename_i x l e;split at hr
  ·rename_i hm;simp only[Option.map_eq_some_iff,Prod.mk.injEq] at hr;obtain⟨u,hu,rfl,rfl⟩:=hr;refine sim_mm (G:=Builtin.min2) hop hcb hargs hts (fun A T C V y l hV=>?_) mn2_ok H hρ e hm hu;simp only[builtin,Builtin.min_,hV]
  ·cases hr
 ·cases hr
theorem sim_mx {c:Call}{xs:List Operand}{ts:List TypeId}(hop:o.op=.call c)(hcb:c.callee=.builtin .max)(hargs:c.args.toList=xs)(hts:c.argTypes.toList=ts)
  (H:HR m h w)(hρ:∀x∈o.op.operands,VR m (ρ x) (ρ' x))(hr:(AOp.mxV xs).run lim ρ h=some (v,h')):Done P lim o ρ' m h w v h':=by
 simp only[AOp.run] at hr;split at hr
 ·rename_i x l e;split at hr
  ·rename_i hm;simp only[Option.map_eq_some_iff,Prod.mk.injEq] at hr;obtain⟨u,hu,rfl,rfl⟩:=hr;refine sim_mm (G:=Builtin.max2) hop hcb hargs hts (fun A T C V y l hV=>?_) mx2_ok H hρ e hm hu;simp only[builtin,Builtin.max_,hV]
  ·cases hr
 ·cases hr
end
section
variable [Start]
variable {P:Program}{lim:Nat}{o:Oper}{ρ ρ':Operand->Value}{m:Mp}{h h':Hp}{w:World}{v:Value}
def MadeB (P:Program)(o:Oper)(ρ':Operand->Value)(m:Mp)(w:World)(k:Blk)(mk:Nat->Value):Prop :=
 ∃v' w' p,(execOp ρ' o).run P w=.ok (.value v') w'/\(p.c=w.heap.size/\p.base=0)/\w'.heap.size=w.heap.size+1/\(∀c,c<w.heap.size->w'.heap[c]?=w.heap[c]?)/\w'.os=w.os/\w'.tape=w.tape/\w'.output=w.output /\
  BR m w' p k/\∀b m',m' b=some p->VR m' (mk b) v'
theorem MadeB.done {k:Blk}{mk:Nat->Value}(M:MadeB P o ρ' m w k mk)(H:HR m h w)(hl:lim<=h.length):Done P lim o ρ' m h w (mk h.length) (h++[k]):=by
 obtain⟨v',w',p,q1,q2,q3,q4,q5,q6,q7,q8,q9⟩:=M;obtain⟨h1,h2⟩:=new_step H hl k p q2.1 q3 q4 q5 q6 q7 (q8.mono (ins_sub H p)) (fun _=>q2.2);exact⟨_,v',w',_,q1,Or.inl rfl,q9 _ _ (ins_self _ _ _),h1,h2⟩
theorem MadeB.of {cs:List Value}{cs':Array Value}{el:TypeId}{W w':World}{v':Value}{mk:Nat->Value}(hW:W.heap=w.heap)(ho:W.os=w.os)(ht:W.tape=w.tape)(hu:W.output=w.output)
  (hr:(execOp ρ' o).run P w=.ok (.value v') w')(hsame:w'.heap.size=(W.alloc (.cells cs' el)).heap.size/\(∀c,c<w.heap.size->w'.heap[c]?=(W.alloc (.cells cs' el)).heap[c]?)/\w'.os=W.os/\w'.tape=W.tape/\w'.output=W.output /\
   (∀i,w'.cell? ⟨w.heap.size,i,none⟩=(W.alloc (.cells cs' el)).cell? ⟨w.heap.size,i,none⟩)/\(∀i,i<cs'.size->w'.frozen? ⟨w.heap.size,i,none⟩=false))
  (hn:cs.length<=cs'.size)(hv:∀i,i<cs.length->VR m (cs.getD i undef) (cs'.getD i undef))
  (hvr:∀b m',m' b=some ⟨w.heap.size,0,cs'.size,true⟩->VR m' (mk b) v'):MadeB P o ρ' m w (.cells true cs) mk:=by
 obtain⟨s1,s2,s3,s4,s5,s6,s7⟩:=hsame;have hws:W.heap.size=w.heap.size:=by rw[hW]
 have hb:BR m w' ⟨w.heap.size,0,cs'.size,true⟩ (.cells true cs):=by
  obtain⟨-,c1,c2⟩:=cells_new (w:=W) (el:=el) hn hv;refine⟨rfl,fun i hi=>?_,fun _=>⟨hn,fun i hi=>⟨?_,?_⟩⟩⟩
  ·obtain⟨v',e1,e2⟩:=c1 i hi;simp only[hws] at e1;exact⟨v',by rw[Nat.zero_add] at e1 ⊢; rw[s6]; exact e1,e2⟩
  ·obtain⟨v',e1⟩:=((c2 rfl).2 i hi).1;simp only[hws] at e1;exact⟨v',by rw[Nat.zero_add] at e1 ⊢; rw[s6]; exact e1⟩
  ·rw[Nat.zero_add]; exact s7 i hi
 exact⟨v',w',_,hr,⟨rfl,rfl⟩,by rw[s1]; simp[hws],fun c hc=>by rw[s2 c hc,Go.RowKit.Below.heap_alloc W _ c (by omega),hW],s3.trans ho,s4.trans ht,s5.trans hu,hb,hvr⟩
theorem MadeB.ofL {cs:List Value}{cs':Array Value}{el:TypeId}{W:World}{v':Value}{mk:Nat->Value}(hW:W.heap=w.heap)(ho:W.os=w.os)(ht:W.tape=w.tape)(hu:W.output=w.output)
  (hr:(execOp ρ' o).run P w=.ok (.value v') (W.alloc (.cells cs' el)))(hn:cs.length<=cs'.size)(hv:∀i,i<cs.length->VR m (cs.getD i undef) (cs'.getD i undef))
  (hvr:∀b m',m' b=some ⟨w.heap.size,0,cs'.size,true⟩->VR m' (mk b) v'):MadeB P o ρ' m w (.cells true cs) mk :=
 MadeB.of hW ho ht hu hr ⟨rfl,fun _ _=>rfl,rfl,rfl,rfl,fun _=>rfl,fun i _=>by rw[<- hW]; simp⟩ hn hv hvr
theorem run_newRow (el:TypeId)(cs:Array Value)(w:World):(newRow el cs).run P w=.ok ⟨w.heap.size,0,none⟩ (w.alloc (.cells cs el)):=by
 simp[newRow,newObj,Sem.run,Sem.run_bind]
theorem mk_box {t:TypeId}{x:Operand}(hop:o.op=.box t x)(hρ:∀x∈o.op.operands,VR m (ρ x) (ρ' x)):MadeB P o ρ' m w (.cells true (ρ x).cells.toList) (fun b=>.pointer (some ⟨b,0,none⟩)):=by
 rw[hop] at hρ;simp only[Op.operands,List.mem_toArray,List.mem_cons,List.not_mem_nil,or_false] at hρ;have h1:=(hρ x rfl).cells;refine MadeB.ofL (W:=w) (el:=t) (cs':=(ρ' x).cells) (v':=.pointer (some ⟨w.heap.size,0,none⟩)) rfl rfl rfl rfl ?_ (by have:=h1.1; simp at this ⊢; omega) (fun i hi=>by have:=h1.2 i hi; rwa [getD_toList (ρ' x).cells] at this) (fun b m' e=>.ptr e);simp only[execOp,hop];refine runV ?_;simp only[Instr.box,newVar,Sem.run_bind,run_newRow,Result.andThen_ok,Sem.run_pure]
theorem zeroOf_inv {t:TypeId}{cs:List Value}(hz:zeroOf P t=some cs):∃i z,P.info? t=some i/\i.zero=some z/\cs=z.cells.toList/\constK z=true/\cs.length=i.size/\∀m,LR m cs cs:=by
 unfold zeroOf at hz;split at hz
 ·rename_i i hi;split at hz
  ·rename_i z hzz;split at hz
   ·rename_i hc;cases hz;simp only[Bool.and_eq_true,beq_iff_eq] at hc;exact⟨i,z,hi,hzz,rfl,hc.1,hc.2,fun m=>(VR.constK hc.1).cells⟩
   ·cases hz
  ·cases hz
 ·cases hz
theorem run_zeroValue' {t:TypeId}{i:TypeInfo}{z:Value}(hi:P.info? t=some i)(hz:i.zero=some z)(w:World):(zeroValue t).run P w=.ok z w:=by
 simp[zeroValue,typeInfo,hi,hz]
theorem mk_zero {t:TypeId}{cs:List Value}(hop:o.op=.alloc t)(hc:zeroOf P t=some cs):MadeB P o ρ' m w (.cells true cs) (fun b=>.pointer (some ⟨b,0,none⟩)):=by
 obtain⟨i,z,hi,hz,rfl,-,-,hL⟩:=zeroOf_inv hc;refine MadeB.ofL (W:=w) (el:=t) (cs':=z.cells) (v':=.pointer (some ⟨w.heap.size,0,none⟩)) rfl rfl rfl rfl ?_ (by simp) (fun i hi=>by have:=(hL m).2 i hi; rwa [getD_toList z.cells] at this ⊢) (fun b m' e=>.ptr e);simp only[execOp,hop];refine runV ?_;simp only[Instr.alloc,newVar,Sem.run_bind,run_zeroValue' hi hz,run_newRow,Result.andThen_ok,Sem.run_pure]
theorem fold_set:∀(l:List Value) (k:Nat) (cs:Array Value) (off:Nat),((l.zipIdx k).foldl (fun(cs:Array Value) (x:Value×Nat)=>cs.setIfInBounds (off+x.2) x.1) cs).toList=lay cs.toList (off+k) l:=by
 intro l
 induction l with
 | nil=>intro k cs off; rfl
 | cons x l ih =>
  intro k cs off;rw[List.zipIdx_cons,List.foldl_cons,ih];simp[lay,Nat.add_assoc]
theorem LR.lay {m:Mp}:∀ {vs vs':List Value},LR m vs vs'->∀ {cs cs':List Value} (_:LR m cs cs') (o:Nat),LR m (lay cs o vs) (lay cs' o vs'):=by
 intro vs
 induction vs with
 | nil=>intro vs' hv cs cs' hc o; obtain rfl:=hv.cases_nil; exact hc
 | cons v vs ih =>
  intro vs' hv cs cs' hc o;obtain⟨v',vs',rfl,h1,h2⟩:=hv.cases_cons;exact ih h2 (hc.set o h1) (o+1)
theorem fill_ok {place:Nat->Option (Nat×Nat)}:∀(ps:List (Nat×Nat×Operand)) (is:List (Nat×Operand)),is.length=ps.length->(∀(j i:Nat) (x:Operand) (q:Nat×Nat×Operand),is[j]?=some (i,x)->ps[j]?=some q->place i=some (q.1,q.2.1)/\q.2.2=x) ->
  (∀(j i:Nat) (x:Operand),is[j]?=some (i,x)->VR m (ρ x) (ρ' x))->∀(z cs:List Value) (z':Array Value),fillL z (ps.map fun(o,n,x)=>(o,n,ρ x))=some cs->LR m z z'.toList ->
  ∃cs',Instr.fill place z' (is.map fun(i,x)=>(i,ρ' x))=some cs'/\LR m cs cs'.toList:=by
 intro ps
 induction ps with
 | nil =>
  intro is hn _ _ z cs z' hf hz;cases is with
  | nil=>simp[fillL] at hf; subst hf; exact⟨z',rfl,hz⟩
  | cons a b=>simp at hn
 | cons q ps ih =>
  intro is hn hp hv z cs z' hf hz;cases is with
  | nil=>simp at hn
  | cons ix is =>
   obtain⟨i,x⟩:=ix;obtain⟨off,n,x'⟩:=q;obtain⟨h1,h2⟩:=hp 0 i x (off,n,x') rfl rfl;simp only at h1 h2;subst h2;have hx:=hv 0 i x' rfl;have hxc:=hx.cells;simp only[List.map_cons,fillL] at hf;split at hf
   ·rename_i hc;obtain⟨hc1,hc2⟩:=hc
    have hz2:LR m (Ab.lay z off (ρ x').cells.toList) ((((ρ' x').cells.zipIdx).foldl (fun(cs:Array Value) (c:Value×Nat)=>cs.setIfInBounds (off+c.2) c.1) z').toList):=by
     have:=fold_set (ρ' x').cells.toList 0 z' off;rw[<- Array.foldl_toList];simp only[Array.toList_zipIdx];rw[this,Nat.add_zero];exact LR.lay hxc hz off
    obtain⟨cs',e1,e2⟩:=ih is (by simpa using hn) (fun j i x q a b=>hp (j+1) i x q (by simpa using a) (by simpa using b)) (fun j i x a=>hv (j+1) i x (by simpa using a)) _ cs _ hf hz2;refine⟨cs',?_,e2⟩;have s1:(ρ' x').cells.size=n:=by have:=hxc.1; simp at this hc1; omega
    have s2:z.length=z'.size:=by have:=hz.1; simpa using this
    simp only[List.map_cons,Instr.fill,h1];rw[if_neg (by simp[s1]; omega)];exact e1
   ·cases hf
theorem partsOf_ok {fs:Array Field}:∀(l:List (Nat×Operand)) (ps:List (Nat×Nat×Operand)),partsOf P fs l=some ps ->
  l.length=ps.length/\∀(j i:Nat) (x:Operand) (q:Nat×Nat×Operand),l[j]?=some (i,x)->ps[j]?=some q->∃f:Field,fs[i]?=some f/\szOf P f.type=some q.2.1/\q.1=f.offset/\q.2.2=x:=by
 intro l
 induction l with
 | nil=>intro ps h; simp[partsOf] at h; subst h; exact⟨rfl,fun j i x q h=>by simp at h⟩
 | cons a l ih =>
  intro ps h;obtain⟨i,x⟩:=a;unfold partsOf at h;split at h
  ·rename_i f l' hf hl';simp only[Option.map_eq_some_iff] at h;obtain⟨s,hs,rfl⟩:=h;obtain⟨e1,e2⟩:=ih l' hl';refine⟨by simp[e1],fun j i' x' q' a b=>?_⟩;cases j with
   | zero =>
    simp only[List.getElem?_cons_zero,Option.some.injEq,Prod.mk.injEq] at a b;obtain⟨rfl,rfl⟩:=a;subst b;exact⟨f,hf,hs,rfl,rfl⟩
   | succ j=>exact e2 j i' x' q' (by simpa using a) (by simpa using b)
  ·cases h
theorem places_run:∀(fs:List Field) (hs:∀f∈fs,(szOf P f.type).isSome=true) (w:World),(fs.mapM (fun f=>do Pure.pure (f.offset,<- sizeOf f.type)):Sem (List (Nat×Nat))).run P w=.ok (fs.map fun f=>(f.offset,(szOf P f.type).getD 0)) w:=by
 intro fs
 induction fs with
 | nil=>intro _ w; simp
 | cons f fs ih =>
  intro hs w;obtain⟨n,hn⟩:=Option.isSome_iff_exists.1 (hs f (by simp));rw[List.mapM_cons];simp only[Sem.run_bind,run_sizeOf' hn,Result.andThen_ok,Sem.run_pure,ih (fun g hg=>hs g (by simp[hg])) w,List.map_cons,hn,Option.getD_some]
theorem sim_build {t:TypeId}{ps:Array (Nat×Operand)}{z:List Value}{l:List (Nat×Nat×Operand)}(hop:o.op=.build t ps)(hz:zeroOf P t=some z)(hp:cParts P t ps=some l)
  (H:HR m h w)(hρ:∀x∈o.op.operands,VR m (ρ x) (ρ' x))(hr:(AOp.build z l).run lim ρ h=some (v,h')):Done P lim o ρ' m h w v h':=by
 rw[hop] at hρ
 have hmem:∀j i x,ps.toList[j]?=some (i,x)->VR m (ρ x) (ρ' x):=fun j i x e=>hρ x (by
  simp only[Op.operands,List.mem_toArray,List.mem_map];exact⟨(i,x),List.mem_of_getElem? e,rfl⟩)
 obtain⟨i,zv,hi,hzz,rfl,-,-,hL⟩:=zeroOf_inv hz;simp only[AOp.run,Option.map_eq_some_iff,Prod.mk.injEq] at hr;obtain⟨cs,hf,rfl,rfl⟩:=hr;unfold cParts at hp;split at hp
 ·rename_i fs hfs;split at hp
  ·rename_i hall;rw[List.all_eq_true] at hall;obtain⟨e1,e2⟩:=partsOf_ok _ _ hp
   obtain⟨cs',f1,f2⟩:=fill_ok (ρ:=ρ) (ρ':=ρ') (m:=m) (place:=fun i=>(fs.toList.map fun f=>(f.offset,(szOf P f.type).getD 0))[i]?) l ps.toList e1 (fun j i x q a b=>by
    obtain⟨f,g1,g2,g3,g4⟩:=e2 j i x q a b;refine⟨?_,g4⟩;have g1':fs.toList[i]?=some f:=by simpa using g1
    simp[List.getElem?_map,g1,g2,g3]) hmem _ _ zv.cells hf (hL m)
   refine Done.pure (v':=.agg cs') H ?_ (LR.agg (by simpa using f2));simp only[execOp,hop];refine runV ?_;have hpl:=places_run fs.toList hall w;simp only[Instr.build,Sem.run_bind,run_zeroValue' hi hzz,Result.andThen_ok,run_underlying hfs];rw[show fs=fs.toList.toArray from(Array.toArray_toList).symm];rw[List.mapM_toArray];have hm:(ps.map (fun x=>(x.fst,ρ' x.snd))).toList=ps.toList.map fun(i,x)=>(i,ρ' x):=by simp
   have hp2:(fun x=>((fs.toList.map fun f=>(f.offset,(szOf P f.type).getD 0)).toArray)[x]?)=fun(i:Nat)=>(fs.toList.map fun f=>(f.offset,(szOf P f.type).getD 0))[i]?:=by
    funext x; rw[List.getElem?_toArray]
   rw[map_eq_pure_bind];simp only[Sem.run_bind,hpl,Result.andThen_ok,Sem.run_pure];rw[hm,hp2,f1];rfl
  ·cases hp
 ·rename_i n e hfs;simp only[Option.map_eq_some_iff] at hp;obtain⟨s,hs,rfl⟩:=hp
  obtain⟨cs',f1,f2⟩:=fill_ok (ρ:=ρ) (ρ':=ρ') (m:=m) (place:=fun i=>some (i*s,s)) (ps.toList.map fun(i,x)=>(i*s,s,x)) ps.toList (by simp) (fun j i x q a b=>by
   simp only[List.getElem?_map,a,Option.map_some,Option.some.injEq] at b;subst b;exact⟨rfl,rfl⟩) hmem _ _ zv.cells hf (hL m)
  refine Done.pure (v':=.agg cs') H ?_ (LR.agg (by simpa using f2));simp only[execOp,hop];refine runV ?_;simp only[Instr.build,Sem.run_bind,run_zeroValue' hi hzz,Result.andThen_ok,run_underlying hfs,run_sizeOf' hs];have hm:(ps.map (fun x=>(x.fst,ρ' x.snd))).toList=ps.toList.map fun(i,x)=>(i,ρ' x):=by simp
  rw[hm,f1];rfl
 ·cases hp
theorem mod_row {z:Array Value}{k:Nat}(hz:z.size=k):∀(n:Nat),((Array.range (n*k)).map (z[·%z.size]!)).toList=repl n z.toList:=by
 intro n;unfold repl;apply List.ext_getElem?;intro i;have hlen:(List.replicate n z.toList).flatten.length=n*k:=by simp[hz]
 by_cases hi:i<n*k
 ·have hk:0<k:=by rcases Nat.eq_zero_or_pos k with h | h; · subst h; simp at hi
                  ·exact h
  have h1:i%k<z.size:=by rw[hz]; exact Nat.mod_lt _ hk
  have h2:((Array.range (n*k)).map (z[·%z.size]!)).toList[i]?=some z[i%k]:=by
   simp[List.getElem?_map,hi,hz];rw[getElem!_pos z (i%k) h1]
  have h3:∀(n i:Nat),i<n*k->(List.replicate n z.toList).flatten[i]?=some (z[i%k]'(by rw[hz]; exact Nat.mod_lt _ hk)):=by
   intro n
   induction n with
   | zero=>intro i h; simp at h
   | succ n ih =>
    intro i h;rw[List.replicate_succ,List.flatten_cons]
    by_cases hik:i<k
    ·rw[List.getElem?_append_left (by simpa[hz] using hik)];simp[Nat.mod_eq_of_lt hik,hz,hik]
    ·rw[List.getElem?_append_right (by simpa[hz] using Nat.le_of_not_lt hik)];have hzl:z.toList.length=k:=by simpa using hz
     rw[hzl,ih (i-k) (by rw[Nat.succ_mul] at h; omega)]
     congr 1
     have:(i-k)%k=i%k:=by
      conv=>rhs; rw[show i=(i-k)+k by omega,Nat.add_mod_right]
     simp only[this]
  rw[h2,h3 n i hi]
 ·rw[List.getElem?_eq_none (by simpa using Nat.le_of_not_lt hi),List.getElem?_eq_none (by rw[hlen]; omega)]
theorem LR.repl {m:Mp}{z:List Value}(hz:LR m z z):∀(n:Nat),LR m (repl n z) (repl n z):=by
 intro n;unfold Ab.repl
 induction n with
 | zero=>exact .nil
 | succ n ih=>rw[List.replicate_succ,List.flatten_cons]; exact hz.append ih
theorem mk_bsl {t e:TypeId}{len s:Nat}{ps:Array (Nat×Operand)}{z:List Value}(hop:o.op=.buildSlice t len ps)(ht:P.underlying t=some (.slice e))(hs:szOf P e=some (s+1))(hz:zeroOf P e=some z)(hle:len*(s+1)<=2 ^ 24)
  (hρ:∀x∈o.op.operands,VR m (ρ x) (ρ' x)){cs:List Value}(hf:fillL (repl len z) ((ps.toList.map fun(i,x)=>(i*(s+1),s+1,x)).map fun(o,n,x)=>(o,n,ρ x))=some cs):MadeB P o ρ' m w (.cells true cs) (fun b=>.slice (some ⟨b,0,none⟩) len (s+1)):=by
 rw[hop] at hρ
 have hmem:∀(j i:Nat) (x:Operand),ps.toList[j]?=some (i,x)->VR m (ρ x) (ρ' x):=fun j i x e=>hρ x (by
  simp only[Op.operands,List.mem_toArray,List.mem_map];exact⟨(i,x),List.mem_of_getElem? e,rfl⟩)
 obtain⟨i,zv,hi,hzz,rfl,-,hsz,hL⟩:=zeroOf_inv hz
 have hzs:zv.cells.size=s+1:=by
  have:i.size=s+1:=by
   unfold szOf at hs;rw[hi] at hs;simpa using hs
  rw[<- this,<- hsz]; simp
 have hrow:=mod_row hzs len
 obtain⟨cs',f1,f2⟩:=fill_ok (ρ:=ρ) (ρ':=ρ') (m:=m) (place:=fun i=>some (i*(s+1),s+1)) (ps.toList.map fun(i,x)=>(i*(s+1),s+1,x)) ps.toList (by simp) (fun j i x q a b=>by
  simp only[List.getElem?_map,a,Option.map_some,Option.some.injEq] at b;subst b;exact⟨rfl,rfl⟩) hmem _ _ ((Array.range (len*(s+1))).map (zv.cells[·%zv.cells.size]!)) hf (by rw[hrow]; exact(hL m).repl len)
 have hcl:cs.length=len*(s+1):=by
  have hfl:∀(l:List (Nat×Nat×Value)) (z cs:List Value),fillL z l=some cs->cs.length=z.length:=by
   intro l
   induction l with
   | nil=>intro z cs h; simp[fillL] at h; rw[h]
   | cons q l ih =>
    intro z cs h;obtain⟨a,b,c⟩:=q;simp only[fillL] at h;split at h
    ·rw[ih _ _ h,lay_len1]
    ·cases h
  rw[hfl _ _ _ hf];simp[repl,hzs]
 have hcl':cs'.size=len*(s+1):=by have:=f2.1; rw[hcl] at this; simpa using this.symm
 refine MadeB.ofL (W:=w) (el:=e) (cs':=cs') (v':=.slice (some ⟨w.heap.size,0,none⟩) len len) rfl rfl rfl rfl ?_ (by omega) (fun i hi=>by have:=f2.2 i hi; rwa [getD_toList cs'] at this)
  (fun b m' e=>.sl (p:=⟨w.heap.size,0,cs'.size,true⟩) e (Nat.le_refl _) fun _=>by simp[hcl'])
 simp only[execOp,hop];refine runV ?_;have hm:(ps.map (fun x=>(x.fst,ρ' x.snd))).toList=ps.toList.map fun(i,x)=>(i,ρ' x):=by simp
 simp only[Instr.buildSlice,Sem.run_bind,run_underlying ht,Result.andThen_ok,run_sizeOf' hs];rw[if_neg (by omega)]
 by_cases h0:len*(s+1)=0
 ·have hz0:((Array.range (len*(s+1))).map ((#[]:Array Value)[·%(#[]:Array Value).size]!))=(Array.range (len*(s+1))).map (zv.cells[·%zv.cells.size]!):=by simp[h0]
  rw[if_pos h0];simp only[Sem.run_bind,Sem.run_pure,Result.andThen_ok];rw[hm,hz0,f1];simp only[Sem.run_bind,run_newRow,Result.andThen_ok,Sem.run_pure]
 ·rw[if_neg h0];simp only[Sem.run_bind,run_zeroValue' hi hzz,Sem.run_pure,Result.andThen_ok];rw[hm,f1];simp only[Sem.run_bind,run_newRow,Result.andThen_ok,Sem.run_pure]
theorem run_askRoom (n:Nat)(w:World):(askRoom n).run P w=.ok () w:=by
 unfold askRoom;split<;>simp[mark,Sem.run]
theorem mk_mkS {t e:TypeId}{s by_:Nat}{z:List Value}{l c:Operand}(hop:o.op=.makeSlice t l c)(ht:P.underlying t=some (.slice e))(hs:szOf P e=some (s+1))(hb:byOf P e=some by_)(hz:zeroOf P e=some z)
  (hρ:∀x∈o.op.operands,VR m (ρ x) (ρ' x)){x y:Int}(ex:ρ l=.int .i64 x)(ey:ρ c=.int .i64 y)(hc:0<=x/\x<=y/\y*by_<=140737488355328/\y<=9223372036854775807) :
  MadeB P o ρ' m w (.cells true (repl x.toNat z)) (fun b=>.slice (some ⟨b,0,none⟩) x.toNat (s+1)):=by
 rw[hop] at hρ;have h1:=hρ l (by simp[Op.operands]);have h2:=hρ c (by simp[Op.operands]);obtain⟨i,zv,hi,hzz,rfl,-,hsz,hL⟩:=zeroOf_inv hz
 have hzs:zv.cells.size=s+1:=by
  have:i.size=s+1:=by
   unfold szOf at hs;rw[hi] at hs;simpa using hs
  rw[<- this,<- hsz]; simp
 have hbi:i.bytes=by_:=by unfold byOf at hb; rw[hi] at hb; simpa using hb
 rw[ex] at h1; rw[ey] at h2;obtain⟨c1,c2,c3,c4⟩:=hc;have hwx:IntKind.i64.wrap x=x:=by simp[IntKind.wrap,IntKind.bits,IntKind.signed]; omega
 have hwy:IntKind.i64.wrap y=y:=by simp[IntKind.wrap,IntKind.bits,IntKind.signed]; omega
 have hrow:=mod_row hzs y.toNat;have hcs:((Array.range (y.toNat*(s+1))).map (zv.cells[·%zv.cells.size]!)).size=y.toNat*(s+1):=by simp
 have hmul:x.toNat*(s+1)<=y.toNat*(s+1):=Nat.mul_le_mul_right _ (by omega);have hrl:∀n,(repl n zv.cells.toList).length=n*(s+1):=fun n=>by simp[repl,hzs]
 have hpre:∀(a b:Nat),a<=b->repl a zv.cells.toList=(repl b zv.cells.toList).take (a*(s+1)):=by
  intro a b hab;obtain⟨k,rfl⟩:=Nat.exists_eq_add_of_le hab;unfold repl;rw[<- List.replicate_append_replicate,List.flatten_append,List.take_append_of_le_length (by simp[hzs]),List.take_of_length_le (by simp[hzs])]
 refine MadeB.ofL (W:=w) (el:=e) (cs':=(Array.range (y.toNat*(s+1))).map (zv.cells[·%zv.cells.size]!)) (v':=.slice (some ⟨w.heap.size,0,none⟩) x.toNat y.toNat) rfl rfl rfl rfl ?_
  (by rw[hcs,hrl]; exact hmul) (fun i hi=>?_) (fun b m' e=>.sl (p:=⟨w.heap.size,0,((Array.range (y.toNat*(s+1))).map (zv.cells[·%zv.cells.size]!)).size,true⟩) e (by omega) fun _=>by simp)
 ·simp only[execOp,hop,h1.int',h2.int'];refine runV ?_;simp only[Instr.makeSlice,Sem.run_bind,run_underlying ht,Result.andThen_ok,asInt,run_asIntOf,Sem.run_pure,typeInfo,run_program,hi,hwx,hwy,hbi]
  have t1:(decide (y<0)||decide ((by_:Int)*y>2 ^ 48))=false:=by
   have:(by_:Int)*y=y*by_:=Int.mul_comm _ _;simp; omega
  have t2:((decide (y<0)||decide ((by_:Int)*y>2 ^ 48))||decide (x<0)||decide (x>y))=false:=by
   rw[t1]; simp; omega
  rw[if_neg (by rw[t2]; simp)];simp only[Sem.run_bind,run_askRoom,Result.andThen_ok,run_sizeOf' hs]
  by_cases h0:y.toNat*(s+1)=0
  ·have hz0:((Array.range (y.toNat*(s+1))).map ((#[]:Array Value)[·%(#[]:Array Value).size]!))=(Array.range (y.toNat*(s+1))).map (zv.cells[·%zv.cells.size]!):=by simp[h0]
   rw[if_pos h0];simp only[Sem.run_bind,Sem.run_pure,Result.andThen_ok,hz0,run_newRow]
  ·rw[if_neg h0];simp only[Sem.run_bind,run_zeroValue' hi hzz,Sem.run_pure,Result.andThen_ok,run_newRow]
 ·rw[<- getD_toList,hrow];rw[hrl] at hi;have:=((hL m).repl x.toNat).2 i (by rw[hrl]; exact hi)
  rw[show(repl y.toNat zv.cells.toList).getD i undef=(repl x.toNat zv.cells.toList).getD i undef by
   rw[hpre x.toNat y.toNat (by omega)]; simp[List.getD_eq_getElem?_getD,List.getElem?_take,hi]]
  exact this
end
section
variable [Start]
variable {P:Program}{lim:Nat}{o:Oper}{ρ ρ':Operand->Value}{m:Mp}{h h':Hp}{w:World}{v:Value}
theorem heap_new (W:World)(o:Obj):(W.alloc o).heap[W.heap.size]?=some o:=by show(W.heap.push o)[W.heap.size]?=_; simp
theorem freeze_at (W:World)(b n:Nat)(cs:Array Value)(el:TypeId)(hb:W.heap[b]?=some (.cells cs el (0,0)))(hn:cs.size<=n) :
  (W.freeze ⟨b,n,none⟩ 1).heap.size=W.heap.size/\(∀c,c≠b->(W.freeze ⟨b,n,none⟩ 1).heap[c]?=W.heap[c]?)/\(∀i,(W.freeze ⟨b,n,none⟩ 1).cell? ⟨b,i,none⟩=W.cell? ⟨b,i,none⟩) /\
   (∀i,i<cs.size->(W.freeze ⟨b,n,none⟩ 1).frozen? ⟨b,i,none⟩=false):=by
 have hh:(W.freeze ⟨b,n,none⟩ 1).heap[b]?=some (.cells cs el (n,n+1)):=by
  simp[World.freeze,Array.getElem?_modify,hb]
 refine⟨by simp[World.freeze],fun c hc=>?_,fun i=>?_,fun i hi=>?_⟩
 ·simp[World.freeze,Array.getElem?_modify,Ne.symm hc]
 ·simp[World.cell?,hh,hb]
 ·simp[World.frozen?,hh]; omega
theorem mk_s2b {s d e:TypeId}{x:Operand}(hop:o.op=.convert s d x)(e1:P.underlying s=some .string)(e2:P.underlying d=some (.slice e))(e3:P.underlying e=some (.int .u8))
  (hρ:∀x∈o.op.operands,VR m (ρ x) (ρ' x)){b:ByteArray}(eb:ρ x=.string b):MadeB P o ρ' m w (.cells true (b.data.toList.map fun b=>.int .u8 b.toNat)) (fun i=>.slice (some ⟨i,0,none⟩) b.size 1):=by
 rw[hop] at hρ;simp only[Op.operands,List.mem_toArray,List.mem_cons,List.not_mem_nil,or_false] at hρ;have h1:=hρ x rfl;rw[eb] at h1;obtain⟨cap,hcap⟩:∃cap,cap=Question.cut (.appendCap b.size 0 e) (w.tape w.drawn (.appendCap b.size 0 e)):=⟨_,rfl⟩;have hge:b.size<=cap:=by rw[hcap]; simp[Question.cut]
 obtain⟨cs',hcs'⟩:∃cs':Array Value,cs'=b.data.map (fun b=>Value.int .u8 b.toNat)++Array.replicate (cap-b.size) (.int .u8 0):=⟨_,rfl⟩;have hsz:cs'.size=cap:=by rw[hcs']; simp; exact Nat.add_sub_cancel' hge
 have hb:(w.drew.alloc (.cells cs' e)).heap[w.heap.size]?=some (.cells cs' e (0,0)):=by
  exact heap_new w.drew (.cells cs' e)
 obtain⟨f1,f2,f3,f4⟩:=freeze_at (w.drew.alloc (.cells cs' e)) w.heap.size cs'.size cs' e hb (Nat.le_refl _)
 refine MadeB.of (W:=w.drew) (el:=e) (cs':=cs') (w':=(w.drew.alloc (.cells cs' e)).freeze ⟨w.heap.size,cs'.size,none⟩ 1) (v':=.slice (some ⟨w.heap.size,0,none⟩) b.size cap) rfl rfl rfl rfl ?_
  ⟨f1,fun c hc=>f2 c (by omega),rfl,rfl,rfl,f3,f4⟩ (by rw[hsz]; simpa using hge) (fun i hi=>?_) (fun i m' em=>.sl em hge fun _=>by simp[hsz])
 ·simp only[execOp,hop,h1.str'];refine runV ?_;simp only[convert,Sem.run_bind,run_underlying e1,run_underlying e2,Result.andThen_ok,run_underlying e3,Conv.stringToBytes];have hch:(choose (.appendCap b.size 0 e)).run P w=.ok cap w.drew:=by simp[choose,Sem.run,Question.forced,hcap]
  rw[hch];simp only[Result.andThen_ok];rw[<- hcs'];simp only[Sem.run_bind,run_newRow,World.size_drew,Result.andThen_ok]
  have hsh:(shape w.heap.size).run P (w.drew.alloc (.cells cs' e))=.ok (some (e,cs'.size)) (w.drew.alloc (.cells cs' e)):=by
   have:(w.drew.alloc (.cells cs' e)).shape? w.heap.size=some (e,cs'.size):=by unfold World.shape?; rw[hb]
   simp only[shape,Sem.run,this]
  simp only[markStringish,Sem.run_bind,hsh,Result.andThen_ok];simp[freeze,Sem.run,Result.andThen]
 ·have hi':i<b.size:=by simpa using hi
  have e1:(b.data.toList.map fun b=>Value.int .u8 b.toNat).getD i undef=.int .u8 (b.data[i]'hi').toNat:=by simp[List.getD_eq_getElem?_getD,hi']
  have e2:cs'.getD i undef=.int .u8 (b.data[i]'hi').toNat:=by
   rw[hcs',Array.getD_eq_getD_getElem?,Array.getElem?_append_left (by simpa using hi')];simp[hi']
  rw[e1,e2];exact .int _ _
theorem mk_mkM {t:TypeId}{r:Option Operand}(hop:o.op=.makeMap t r)(ht:∃k e,P.underlying t=some (.map k e))(hrr:r=none\/∃k n,r=some (.const (.int k n)))(hcc:∀c,ρ' (.const c)=c) :
  MadeB P o ρ' m w (.map []) (fun b=>.map (some b)):=by
 obtain⟨k,e,ht⟩:=ht
 refine⟨.map (some w.heap.size),w.alloc (.map #[] 0),⟨w.heap.size,0,0,true⟩,?_,⟨rfl,rfl⟩,by simp,fun c hc=>Go.RowKit.Below.heap_alloc w _ c hc,rfl,rfl,rfl,
  ⟨rfl,#[],0,heap_new w _,rfl,fun i k v e=>by simp at e,MapKept.stamped_empty _⟩,fun b m' e=>.map e⟩
 simp only[execOp,hop];refine runV ?_;rcases hrr with rfl | ⟨k',n,rfl⟩
 ·simp[Instr.makeMap,newObj,Sem.run]
 ·simp[Instr.makeMap,newObj,Sem.run,run_underlying ht,hcc,asInt,run_asIntOf]
theorem single_one {v:Value}(hs:single v=true):v.oneCell'=true:=by
 cases v<;>first
  | rfl
  | (simp[single] at hs)
theorem LR.single {m:Mp}:∀ {vs vs':List Value},LR m vs vs'->vs.all Ab.single=true->∀v∈vs',v.oneCell'=true:=by
 intro vs
 induction vs with
 | nil=>intro vs' h _ v hv; rw[h.cases_nil] at hv; cases hv
 | cons x vs ih =>
  intro vs' h ha v hv;obtain⟨y,ys,rfl,h1,h2⟩:=h.cases_cons;simp only[List.all_cons,Bool.and_eq_true] at ha;rcases List.mem_cons.1 hv with rfl | hv
  ·exact single_one (by rw[h1.single]; exact ha.1)
  ·exact ih h2 ha.2 v hv
theorem wr_step {b off:Nat}{vs vs':List Value}(H:HR m h w)(hw:wrN lim h b off vs=some h'){p:Pl}(hm:m b=some p)(hv:LR m vs vs') :
  (∀n,n=p.base+off->(storeCells ⟨p.c,n,none⟩ vs').run P w=.ok () (w.setCells p.c n vs'))/\HR m h' (w.setCells p.c (p.base+off) vs')/\Step lim m h w m h' (w.setCells p.c (p.base+off) vs'):=by
 unfold wrN at hw;split at hw
 ·rename_i cs hb;split at hw
  ·rename_i hc;obtain⟨hfit,hsing,hlim⟩:=hc;cases hw;obtain⟨ho,hC⟩:=H.blk _ _ _ hm hb;have ho:p.own=true:=ho.symm;obtain⟨s1,s2,s3,s4,s5⟩:=heap_setCells p.c vs' (p.base+off) w;refine⟨fun n hn=>?_,write_step H hm hb (by simp) ho s1 s2 s3 s4 s5 ⟨ho.symm,cells_write hC ho hfit hv⟩ fun hbl l hll hl hB=>?_⟩
   ·subst hn;have hlen:=hv.1
    have:=run_storeCells_cells (P:=P) p.c (p.base+off) vs' 0 w (fun j hj=>by
      obtain⟨v',e⟩:=((hC.2 ho).2 (off+j) (by have:=(hC.2 ho).1; omega)).1;rw[show p.base+off+0+j=p.base+(off+j) by omega,e]; rfl)
     (fun j hj=>by
      have:=((hC.2 ho).2 (off+j) (by have:=(hC.2 ho).1; omega)).2
      rwa [show p.base+off+0+j=p.base+(off+j) by omega]) (hv.single hsing)
    simpa using this
   ·obtain⟨hB1,hB2⟩:=hB;rcases hlim with h | h
    ·omega
    ·exact⟨hB1,cells_write hB2 ho hfit (hv.flat1 h)⟩
  ·cases hw
 ·cases hw
theorem sim_st {t:TypeId}{n:Nat}{a x:Operand}(hop:o.op=.store t a x)(hs:szOf P t=some n)(H:HR m h w)(hρ:∀x∈o.op.operands,VR m (ρ x) (ρ' x))
  (hr:(AOp.st n a x).run lim ρ h=some (v,h')):Done P lim o ρ' m h w v h':=by
 rw[hop] at hρ;have h1:=hρ a (by simp[Op.operands]);have h2:=hρ x (by simp[Op.operands]);simp only[AOp.run] at hr;split at hr
 ·rename_i b off e;rw[e] at h1;split at hr
  ·rename_i hn;simp only[Option.map_eq_some_iff,Prod.mk.injEq] at hr;obtain⟨h2',hw,rfl,rfl⟩:=hr;obtain⟨u,hu⟩:∃u,ρ' a=u:=⟨_,rfl⟩;rw[hu] at h1;cases h1 with
   | ptr hm =>
    obtain⟨q1,q2,q3⟩:=wr_step (P:=P) H hw hm h2.cells;refine⟨.skip,undef,_,m,?_,Or.inr ⟨rfl,rfl⟩,.undef,q2,q3⟩;have hsz:(ρ' x).cells.size=n:=by have:=h2.cells.1; simp at this hn; omega
    simp only[execOp,hop,hu,Instr.storeAt,Instr.sureAddr,storeVar,Sem.run_bind,Sem.run_pure,Result.andThen_ok,run_sizeOf' hs];rw[if_neg (by simp[hsz])];simp only[q1 _ rfl,Result.andThen_ok]
  ·cases hr
 ·cases hr
end
section
variable [Start]
variable {P:Program}{lim:Nat}{o:Oper}{ρ ρ':Operand->Value}{m:Mp}{h h':Hp}{w:World}{v:Value}
theorem src_run {es n:Nat}{x x':Value}{new:List Value}(H:HR m h w)(hx:VR m x x')(hs:srcOf h es x=some (n,new))(hes:0<es) :
  new.length=n*es/\(∀W:World,(Builtin.lenOf x').run P W=.ok n W)/\∃cs:List Value,LR m new cs/\∀(k:Nat),k<=n->∀W:World,W.heap=w.heap->(Builtin.firstCells es k x').run P W=.ok (cs.take (k*es)).toArray W:=by
 unfold srcOf at hs;split at hs
 ·cases hs;cases hx;exact⟨by simp,fun W=>rfl,[],.nil,fun k hk W hW=>by simp[Builtin.firstCells]⟩
 ·rename_i b off n' e;split at hs
  ·rename_i he;subst he;simp only[Option.map_eq_some_iff,Prod.mk.injEq] at hs;obtain⟨cs,hcs,rfl,rfl⟩:=hs
   have main:∀(p:Pl) (a:Addr) (cap:Nat),m b=some p->(n'=0\/a=⟨p.c,p.base+off,none⟩)->x'=.slice (some a) n' cap ->
     cs.length=n'*e/\(∀W:World,(Builtin.lenOf x').run P W=.ok n' W)/\∃cs':List Value,LR m cs cs'/\∀(k:Nat),k<=n'->∀W:World,W.heap=w.heap->(Builtin.firstCells e k x').run P W=.ok (cs'.take (k*e)).toArray W:=by
    rintro p a cap hm ha rfl;obtain⟨hl,f,f1,f2⟩:=rd_cells H hcs hm;refine⟨hl,fun W=>rfl,_,f2,fun k hk W hW=>?_⟩;have hke:k*e<=n'*e:=Nat.mul_le_mul_right _ hk
    have ht:((List.range (n'*e)).map f).take (k*e)=(List.range (k*e)).map f:=by
     rw[<- List.map_take,List.take_range,Nat.min_eq_left hke]
    rw[ht];simp only[Builtin.firstCells];rcases ha with h0 | rfl
    ·subst h0;have:k=0:=by omega
     subst this;simp[loadCells,loadCellsFrom]
    ·have f1':∀i,i<k*e->W.cell? ⟨p.c,p.base+off+i,none⟩=some (f i):=fun i hi=>by
      have:=f1 i (by omega);simpa[World.cell?,hW] using this
     exact run_loadN f1' rfl
   cases hx with
   | sl hm hl hc=>exact main _ _ _ hm (Or.inr rfl) rfl
   | sl0 hm=>exact main _ _ _ hm (Or.inl rfl) rfl
  ·cases hs
 ·rename_i s;split at hs
  ·rename_i he;subst he;cases hs;obtain rfl:=hx.str';refine⟨by simp,fun W=>rfl,_,⟨rfl,fun i hi=>?_⟩,fun k hk W hW=>?_⟩
   ·have hi':i<s.size:=by simpa using hi
    have:(s.data.toList.map fun b=>Value.int .u8 b.toNat).getD i undef=.int .u8 (s.data[i]'hi').toNat:=by simp[List.getD_eq_getElem?_getD,hi']
    rw[this]; exact .int _ _
   ·simp only[Builtin.firstCells];show Result.ok _ _=_
    congr 1
    apply Array.ext';simp[ByteArray.data_extract,List.map_take]
  ·cases hs
 ·cases hs
theorem setCells_nil (w:World)(b n:Nat):w.setCells b n []=w:=rfl
theorem sim_copy {c:Call}{t e:TypeId}{ts:List TypeId}{es:Nat}{d x:Operand}(hop:o.op=.call c)(hcb:c.callee=.builtin .copy)(hargs:c.args.toList=[d,x])(hts:c.argTypes.toList=t::ts)(ht:P.underlying t=some (.slice e))(hs:szOf P e=some es)(hes:0<es)
  (H:HR m h w)(hρ:∀x∈o.op.operands,VR m (ρ x) (ρ' x))(hr:(AOp.copy es d x).run lim ρ h=some (v,h')):Done P lim o ρ' m h w v h':=by
 rw[hop] at hρ;have h1:=hρ d (call_mem hargs (by simp));have h2:=hρ x (call_mem hargs (by simp));obtain⟨u,hu⟩:∃u,ρ' d=u:=⟨_,rfl⟩;rw[hu] at h1;simp only[AOp.run] at hr;split at hr
 ·rename_i ed;rw[ed] at h1;simp only[Option.map_eq_some_iff,Prod.mk.injEq] at hr;obtain⟨⟨n,new⟩,hsrc,rfl,rfl⟩:=hr;obtain⟨hl,hlen,cs,hcs,hfc⟩:=src_run (P:=P) H h2 hsrc hes;cases h1;refine Done.pure (v':=.int .i64 0) H (builtin_run hop hcb hargs hts (s:=fun T V=>Builtin.copy_ T o.type V) (fun _ _ _ _=>rfl) ?_) (.int _ _);have:=hfc 0 (Nat.zero_le _) w rfl;simp only[Nat.zero_mul,List.take_zero] at this;simp[Builtin.copy_,run_underlying ht,hu,hlen,run_sizeOf' hs,Nat.min,this,goInt]
 ·rename_i b off l e' ed;rw[ed] at h1;split at hr
  ·rename_i n new hsrc;split at hr
   ·rename_i he;subst he;simp only[Option.map_eq_some_iff,Prod.mk.injEq] at hr;obtain⟨h2',hw,rfl,rfl⟩:=hr;obtain⟨hl,hlen,cs,hcs,hfc⟩:=src_run (P:=P) H h2 hsrc hes;have hk:Nat.min n l<=n:=Nat.min_le_left _ _;have hfc':=hfc (Nat.min n l) hk w rfl
    have hmin:∀(a:Addr) (cap:Nat),u=.slice (some a) l cap->∀w',(storeCells a (cs.take (Nat.min n l*e'))).run P w=.ok () w' ->
      (execOp ρ' o).run P w=.ok (.value (.int .i64 (Nat.min n l:Nat))) w':=by
     rintro a cap rfl w' hst;refine builtin_run hop hcb hargs hts (s:=fun T V=>Builtin.copy_ T o.type V) (fun _ _ _ _=>rfl) ?_;simp[Builtin.copy_,run_underlying ht,hu,hlen,run_sizeOf' hs,hfc',hst,goInt]
    cases h1 with
    | sl hm hll hc =>
     obtain⟨q1,q2,q3⟩:=wr_step (P:=P) H hw hm (hcs.take (min n l*e'));exact⟨_,_,_,m,hmin _ _ rfl _ (q1 _ rfl),Or.inl rfl,.int _ _,q2,q3⟩
    | sl0 hm =>
     have hz:min n 0*e'=0:=by simp
     rw[hz,List.take_zero] at hw;obtain⟨q1,q2,q3⟩:=wr_step (P:=P) H hw hm .nil;rw[setCells_nil] at q2 q3;refine⟨_,_,w,m,hmin _ _ rfl w ?_,Or.inl rfl,.int _ _,q2,q3⟩;have hz':Nat.min n 0*e'=0:=hz;rw[hz',List.take_zero]; rfl
   ·cases hr
  ·cases hr
 ·cases hr
theorem zeroCells_list {z:Array Value}{k:Nat}(hz:z.size=k)(n:Nat):(Builtin.zeroCells z n).toList=repl n z.toList:=by
 rw[<- mod_row hz n,<- hz]; rfl
theorem sim_clrS {c:Call}{t e:TypeId}{es:Nat}{z:List Value}{x:Operand}(hop:o.op=.call c)(hcb:c.callee=.builtin .clear)(hargs:c.args.toList=[x])(hts:c.argTypes.toList=[t])(ht:P.underlying t=some (.slice e))(hz:zeroOf P e=some z)
  (H:HR m h w)(hρ:∀x∈o.op.operands,VR m (ρ x) (ρ' x))(hr:(AOp.clrS es z x).run lim ρ h=some (v,h')):Done P lim o ρ' m h w v h':=by
 rw[hop] at hρ;have h1:=hρ x (call_mem hargs (by simp));obtain⟨i,zv,hi,hzz,rfl,-,-,hL⟩:=zeroOf_inv hz;obtain⟨u,hu⟩:∃u,ρ' x=u:=⟨_,rfl⟩;rw[hu] at h1;simp only[AOp.run] at hr;split at hr
 ·rename_i ex;rw[ex] at h1;cases hr;cases h1;refine Done.pure (v':=.tuple #[]) H (builtin_run hop hcb hargs hts (s:=fun T V=>Builtin.clear_ T o.type V) (fun _ _ _ _=>rfl) ?_) .undef;simp[Builtin.clear_,run_underlying ht,hu]
 ·rename_i b off l e' ex;rw[ex] at h1;split at hr
  ·simp only[Option.map_eq_some_iff,Prod.mk.injEq] at hr;obtain⟨h2',hw,rfl,rfl⟩:=hr;have hLr:=(hL m).repl l
   have hrun0:∀(a:Option Addr) (cap:Nat),u=.slice a 0 cap->(execOp ρ' o).run P w=.ok (.value (.tuple #[])) w:=by
    rintro a cap rfl;refine builtin_run hop hcb hargs hts (s:=fun T V=>Builtin.clear_ T o.type V) (fun _ _ _ _=>rfl) ?_;cases a<;>simp[Builtin.clear_,run_underlying ht,hu]
   cases h1 with
   | sl hm hll hc =>
    obtain⟨q1,q2,q3⟩:=wr_step (P:=P) H hw hm hLr
    by_cases h0:l=0
    ·subst h0;rw[show repl 0 zv.cells.toList=[] from rfl,setCells_nil] at q2 q3;exact⟨_,_,w,m,hrun0 _ _ rfl,Or.inl rfl,.undef,q2,q3⟩
    ·refine⟨_,.tuple #[],_,m,?_,Or.inl rfl,.undef,q2,q3⟩;refine builtin_run hop hcb hargs hts (s:=fun T V=>Builtin.clear_ T o.type V) (fun _ _ _ _=>rfl) ?_;have hzc:=zeroCells_list (z:=zv.cells) rfl l;obtain⟨l,rfl⟩:∃k,l=k+1:=⟨l-1,by omega⟩;simp[Builtin.clear_,run_underlying ht,hu,run_zeroValue' hi hzz,hzc,q1 _ rfl]
   | sl0 hm =>
    obtain⟨q1,q2,q3⟩:=wr_step (P:=P) H hw hm hLr;rw[show repl 0 zv.cells.toList=[] from rfl,setCells_nil] at q2 q3;exact⟨_,_,w,m,hrun0 _ _ rfl,Or.inl rfl,.undef,q2,q3⟩
  ·cases hr
 ·cases hr
end
section
variable [Start]
variable {P:Program}{lim:Nat}{o:Oper}{ρ ρ':Operand->Value}{m:Mp}{h h':Hp}{w:World}{v:Value}
theorem run_append_fits {t u e ty:TypeId}{du:TypeDesc}{es n sLen sCap:Nat}{base:Option Addr}{x':Value}{cs:Array Value}{w':World}(ht:P.underlying t=some (.slice e))(hu:P.underlying u=some du)(hdu:∀k,du≠.int k)(hs:szOf P e=some es)
  (hlen:(Builtin.lenOf x').run P w=.ok n w)(hfc:(Builtin.firstCells es n x').run P w=.ok cs w)(hroom:sLen+n<=sCap)
  (hst:∀a,base=some a->(storeCells (a.add (sLen*es)) cs.toList).run P w=.ok () w')(hnone:base=none->w'=w) :
  (Builtin.append_ #[t,u] ty #[.slice base sLen sCap,x']).run P w=.ok (.slice base (sLen+n) sCap) w':=by
 have hz:(du matches .int _)=false:=by cases du<;>first | rfl | exact absurd rfl (hdu _)
 cases base with
 | none=>simp[Builtin.append_,run_underlying ht,run_underlying hu,run_sizeOf' hs,hz,hlen,hroom,hfc,hnone]
 | some a=>simp[Builtin.append_,run_underlying ht,run_underlying hu,run_sizeOf' hs,hz,hlen,hroom,hfc,hst]
theorem run_append_grows {t u e ty:TypeId}{du:TypeDesc}{es by_ n sLen sCap:Nat}{base:Option Addr}{x' zv:Value}{i:TypeInfo}{old cs:Array Value}(ht:P.underlying t=some (.slice e))(hu:P.underlying u=some du)(hdu:∀k,du≠.int k)(hs:szOf P e=some es)
  (hi:P.info? e=some i)(hz:i.zero=some zv)(hb:i.bytes=by_+1)(hlen:(Builtin.lenOf x').run P w=.ok n w)(hfc:(Builtin.firstCells es n x').run P w.drew=.ok cs w.drew)
  (hold:(Builtin.firstCells es sLen (.slice base sLen sCap)).run P w.drew=.ok old w.drew)(hroom:sCap<sLen+n)(hbytes:(sLen+n)*(by_+1)<=140737488355328) :
  ∃cap,sLen+n<=cap/\(Builtin.append_ #[t,u] ty #[.slice base sLen sCap,x']).run P w=.ok (.slice (some ⟨w.heap.size,0,none⟩) (sLen+n) cap) (w.drew.alloc (.cells (old++cs++Builtin.zeroCells zv.cells (cap-(sLen+n))) e)):=by
 have hz':(du matches .int _)=false:=by cases du<;>first | rfl | exact absurd rfl (hdu _)
 refine⟨grownCap w (sLen+n) sCap e,grownCap_ge w _ _ _,?_⟩;have hn:¬ (sLen+n<=sCap):=by omega
 have hfit:=growslice_fits hroom hbytes;have h48':¬ (281474976710656<Builtin.nextslicecap (sLen+n) sCap*(by_+1)):=by omega
 simp[Builtin.append_,run_underlying ht,run_underlying hu,run_sizeOf' hs,hz',hlen,hn,typeInfo,hi,hb,h48',Question.forced,hold,hfc,zeroValue,hz,run_newRow,grownCap,run_askRoom]
theorem cells_append {p:Pl}{cs vs vs':List Value}(hC:CellsR m w p cs)(ho:p.own=true)(hfit:cs.length+vs.length<=p.lim)(hv:LR m vs vs'):CellsR m (w.setCells p.c (p.base+cs.length) vs') p (cs++vs):=by
 obtain⟨hc,hlim⟩:=hC;obtain⟨hl1,hl2⟩:=hlim ho;have hn:vs'.length=vs.length:=hv.1.symm
 have hold:∀j,j<vs'.length->(w.cell? ⟨p.c,p.base+cs.length+j,none⟩).isSome=true:=by
  intro j hj;obtain⟨v',e⟩:=(hl2 (cs.length+j) (by omega)).1;rw[Nat.add_assoc,e]; rfl
 have hin:∀j (hj:j<vs'.length),(w.setCells p.c (p.base+cs.length) vs').cell? ⟨p.c,p.base+(cs.length+j),none⟩=some vs'[j]:=by
  intro j hj;have:=World.cell?_setCells_in p.c vs' (p.base+cs.length) w hold j hj
  rwa [Nat.add_assoc] at this
 have hout:∀i,i<cs.length\/cs.length+vs'.length<=i->(w.setCells p.c (p.base+cs.length) vs').cell? ⟨p.c,p.base+i,none⟩=w.cell? ⟨p.c,p.base+i,none⟩:=by
  intro i hi;exact World.cell?_setCells_out p.c vs' (p.base+cs.length) w _ (fun _ _=>by simp; omega)
 refine⟨fun i hi=>?_,fun _=>⟨by simp; omega,fun i hi=>⟨?_,by rw[World.frozen?_setCells]; exact(hl2 i hi).2⟩⟩⟩
 ·by_cases h1:i<cs.length
  ·rw[hout i (Or.inl h1)];obtain⟨v',e1,e2⟩:=hc i h1;exact⟨v',e1,by simpa[List.getD_eq_getElem?_getD,List.getElem?_append_left h1] using e2⟩
  ·obtain⟨j,rfl⟩:=Nat.exists_eq_add_of_le (Nat.le_of_not_lt h1);have hj:j<vs.length:=by simp at hi; omega
   have hj':j<vs'.length:=by omega
   refine⟨_,hin j hj',?_⟩;have:=hv.2 j hj;simpa[List.getD_eq_getElem?_getD,List.getElem?_append_right,hj,hj'] using this
 ·by_cases h1:i<cs.length\/cs.length+vs'.length<=i
  ·rw[hout i h1]; exact(hl2 i hi).1
  ·obtain⟨j,rfl⟩:=Nat.exists_eq_add_of_le (show cs.length<=i by omega);exact⟨_,hin j (by omega)⟩
theorem Done.after {h1 h2:Hp}{v:Value}(s:Step lim m h w m h1 w)(d:Done P lim o ρ' m h1 w v h2):Done P lim o ρ' m h w v h2:=by
 obtain⟨nx,v',w',m',a,b,c,e,f⟩:=d;exact⟨nx,v',w',m',a,b,c,e,s.trans f⟩
theorem sim_app {c:Call}{t u e:TypeId}{es by_:Nat}{z:List Value}{s x:Operand}{du:TypeDesc}(hop:o.op=.call c)(hcb:c.callee=.builtin .append)(hargs:c.args.toList=[s,x])(hts:c.argTypes.toList=[t,u])(ht:P.underlying t=some (.slice e))(hu:P.underlying u=some du)(hdu:∀k,du≠.int k)
  (hs:szOf P e=some (es+1))(hb:byOf P e=some (by_+1))(hz:zeroOf P e=some z)(hl:lim<=h.length)
  (H:HR m h w)(hρ:∀x∈o.op.operands,VR m (ρ x) (ρ' x))(hr:(AOp.app (es+1) (by_+1) s x).run lim ρ h=some (v,h')):Done P lim o ρ' m h w v h':=by
 rw[hop] at hρ;have h1:=hρ s (call_mem hargs (by simp));have h2:=hρ x (call_mem hargs (by simp));obtain⟨i,zv,hi,hzz,-,-,-,-⟩:=zeroOf_inv hz;have hbi:i.bytes=by_+1:=by unfold byOf at hb; rw[hi] at hb; simpa using hb
 obtain⟨us,hus⟩:∃u,ρ' s=u:=⟨_,rfl⟩;rw[hus] at h1
 have hwrap:∀r w',(Builtin.append_ #[t,u] o.type #[us,ρ' x]).run P w=.ok r w'->(execOp ρ' o).run P w=.ok (.value r) w':=by
  intro r w' hrun;refine builtin_run hop hcb hargs hts (s:=fun T V=>Builtin.append_ T o.type V) (fun _ _ _ _=>rfl) ?_;simpa[hus] using hrun
 simp only[AOp.run] at hr;split at hr
 ·rename_i n new hsrc;obtain⟨hnl,hlen,cs,hcs,hfc⟩:=src_run (P:=P) H h2 hsrc (Nat.succ_pos _);have hcsl:cs.length=n*(es+1):=by rw[<- hcs.1,hnl]
  have hfull:cs.take (n*(es+1))=cs:=List.take_of_length_le (by omega)
  have hfcn:∀W:World,W.heap=w.heap->(Builtin.firstCells (es+1) n (ρ' x)).run P W=.ok cs.toArray W:=fun W hW=>by
   have:=hfc n (Nat.le_refl _) W hW
   rwa [hfull] at this
  split at hr
  ·rename_i hn0;subst hn0;have hcs0:cs=[]:=by simpa using hcsl
   subst hcs0
   have key:∀(base:Option Addr) (len cap:Nat),us=.slice base len cap->len<=cap->(execOp ρ' o).run P w=.ok (.value us) w:=by
    rintro base len cap rfl hle;refine hwrap _ _ ?_;have:=run_append_fits (P:=P) (ty:=o.type) (base:=base) (w:=w) (w':=w) (sLen:=len) (sCap:=cap) ht hu hdu hs (hlen w) (hfcn w rfl) (by omega) (fun a ha=>rfl) (fun _=>rfl);simpa using this
   split at hr
   ·rename_i es';rw[es'] at h1;cases hr;cases h1;exact Done.pure H (key _ _ _ rfl (Nat.le_refl _)) .snil
   ·rename_i a l e' es';rw[es'] at h1;cases hr;refine Done.pure H (v':=us) ?_ h1;cases h1 with
    | sl hm hll hc=>exact key _ _ _ rfl hll
    | sl0 hm=>exact key _ _ _ rfl (Nat.le_refl _)
   ·cases hr
  ·rename_i hn0;split at hr
   ·rename_i hsg
    have hzs:zv.cells.size=es+1:=by
     obtain⟨i2,zv2,hi2,hz2,hz3,-,hz4,-⟩:=zeroOf_inv hz;rw[hi] at hi2; cases hi2;rw[hzz] at hz2; cases hz2;unfold szOf at hs; rw[hi] at hs;have:i.size=es+1:=by simpa using hs
     rw[<- this,<- hz4,hz3]; simp
    have hrest:∀k,(Builtin.zeroCells zv.cells k).size=k*(es+1):=fun k=>by
     have:=zeroCells_list hzs k;rw[<- Array.length_toList,this]; simp[repl,hzs]
    have grow:∀(hh:Hp) (base:Option Addr) (sLen sCap:Nat) (olds olds':List Value),HR m hh w->lim<=hh.length->us=.slice base sLen sCap->sCap<sLen+n->(sLen+n)*(by_+1)<=140737488355328 ->
      (Builtin.firstCells (es+1) sLen (.slice base sLen sCap)).run P w.drew=.ok olds'.toArray w.drew->LR m olds olds'->olds.length=sLen*(es+1) ->
      Done P lim o ρ' m hh w (.slice (some ⟨hh.length,0,none⟩) (sLen+n) (es+1)) (hh++[.cells true (olds++new)]):=by
     intro hh base sLen sCap olds olds' HH hll heq hroom hbytes hold hLo hol;subst heq;obtain⟨cap,hcap,hrun⟩:=run_append_grows (P:=P) (ty:=o.type) (base:=base) (w:=w) (sLen:=sLen) (sCap:=sCap) (x':=ρ' x) (n:=n) (cs:=cs.toArray) (old:=olds'.toArray) ht hu hdu hs hi hzz hbi (hlen w) (hfcn _ rfl) hold hroom hbytes;have hLL:LR m (olds++new) (olds'++cs):=hLo.append hcs;have hrow:(olds'.toArray++cs.toArray++Builtin.zeroCells zv.cells (cap-(sLen+n))).toList=(olds'++cs)++(Builtin.zeroCells zv.cells (cap-(sLen+n))).toList:=by simp
     have hol':olds'.length=sLen*(es+1):=by rw[<- hLo.1,hol]
     have hmul:(sLen+n)*(es+1)<=cap*(es+1):=Nat.mul_le_mul_right _ hcap
     have hsz:(olds'.toArray++cs.toArray++Builtin.zeroCells zv.cells (cap-(sLen+n))).size=cap*(es+1):=by
      rw[Array.size_append,Array.size_append,hrest];simp only[List.size_toArray,hcsl,hol'];rw[Nat.sub_mul];rw[Nat.add_mul] at hmul ⊢;omega
     refine(MadeB.ofL (w:=w) (cs:=olds++new) (W:=w.drew) (el:=e) (cs':=olds'.toArray++cs.toArray++Builtin.zeroCells zv.cells (cap-(sLen+n))) (v':=.slice (some ⟨w.heap.size,0,none⟩) (sLen+n) cap) (mk:=fun i=>.slice (some ⟨i,0,none⟩) (sLen+n) (es+1)) rfl rfl rfl rfl (hwrap _ _ hrun)
      (by rw[hsz,List.length_append,hol,hnl,<- Nat.add_mul]; exact hmul) (fun j hj=>?_) (fun i m' em=>.sl em hcap fun _=>by rw[Nat.zero_add]; exact Nat.le_of_eq hsz.symm)).done HH hll
     rw[<- getD_toList,hrow];have hj':j<(olds'++cs).length:=by rw[<- hLL.1]; exact hj
     have:=hLL.2 j hj
     rw[show((olds'++cs)++(Builtin.zeroCells zv.cells (cap-(sLen+n))).toList).getD j undef=(olds'++cs).getD j undef by
      rw[List.getD_eq_getElem?_getD,List.getElem?_append_left hj',<- List.getD_eq_getElem?_getD]]
     exact this
    split at hr
    ·rename_i es';rw[es'] at h1;split at hr
     ·rename_i hbytes;cases hr;cases h1;have:=grow h none 0 0 [] [] H hl rfl (by omega) (by simpa using hbytes) (by simp[Builtin.firstCells]) .nil (by simp);simpa using this
     ·cases hr
    ·rename_i b off l e' es';rw[es'] at h1;split at hr
     ·rename_i ks hb0
      have key:e'=es+1/\off=0/\off+l*(es+1)<=ks.length/\(l+n)*(by_+1)<=140737488355328/\v=.slice (some ⟨h.length,0,none⟩) (l+n) (es+1)/\h'=(h.set b .dead)++[.cells true ((ks.drop off).take (l*(es+1))++new)]:=by
       split at hr
       ·rename_i hcnd;obtain⟨c1,c0,hend,hbytes⟩:=hcnd;cases hr;refine⟨c1,c0,by omega,hbytes,rfl,?_⟩;rw[List.take_of_length_le (by simp; omega)]
       ·split at hr
        ·rename_i hcnd;obtain⟨c1,c0,hend,hbytes⟩:=hcnd;cases hr;exact⟨c1,c0,hend,hbytes,rfl,rfl⟩
        ·cases hr
      clear hr;obtain⟨rfl,hof0,hend,hbytes,rfl,rfl⟩:=key;have hofl:off<=ks.length:=by omega
      have hdl:((ks.drop off).take (l*(es+1))).length=l*(es+1):=by simp; omega
      have hrdn:rdN h b off (l*(es+1))=some ((ks.drop off).take (l*(es+1))):=by
       simp only[rdN,hb0];rw[if_pos (by omega)]
      have kill:∀p,m b=some p->p.own=true->HR m (h.set b .dead) w/\Step lim m h w m (h.set b .dead) w:=fun p hm ho=>kill_step H hm hb0 (by simp) ho;have hlen':(h.set b Blk.dead).length=h.length:=by simp
      have growAt:∀(p:Pl) (a:Addr) (cap:Nat),m b=some p->us=.slice (some a) l cap->cap<l+n->(l=0\/a=⟨p.c,p.base+off,none⟩) ->
        Done P lim o ρ' m h w (.slice (some ⟨h.length,0,none⟩) (l+n) (es+1)) ((h.set b .dead)++[.cells true (((ks.drop off).take (l*(es+1)))++new)]):=by
       intro p a cap hm heq hroom ha;obtain⟨ho,-⟩:=H.blk _ _ _ hm hb0;obtain⟨k1,k2⟩:=kill p hm ho.symm;obtain⟨hlr,f,f1,f2⟩:=rd_cells H hrdn hm;refine Done.after k2 ?_
       have:=grow (h.set b .dead) (some a) l cap ((ks.drop off).take (l*(es+1))) ((List.range (l*(es+1))).map f) k1 (by rw[hlen']; exact hl) heq hroom hbytes (by
        simp only[Builtin.firstCells];rcases ha with h0 | rfl
        ·subst h0; simp[loadCells,loadCellsFrom]
        ·exact run_loadN (w:=w.drew) (by simpa using f1) rfl) f2 hdl
       rwa [hlen'] at this
      cases h1 with
      | sl hm hll hc =>
       rename_i cap p
       by_cases hroom:l+n<=cap
       ·obtain⟨ho,hC⟩:=H.blk _ _ _ hm hb0;have ho:p.own=true:=ho.symm;obtain⟨k1,k2⟩:=kill p hm ho;obtain⟨hc1,hc2⟩:=hC;obtain⟨hc3,hc4⟩:=hc2 ho;have hcap:=hc ho;have hmul:(l+n)*(es+1)<=cap*(es+1):=Nat.mul_le_mul_right _ hroom;rw[Nat.add_mul] at hmul
        have hP:CellsR m w ⟨p.c,p.base+off,p.lim-off,true⟩ ((ks.drop off).take (l*(es+1))):=by
         refine⟨fun j hj=>?_,fun _=>⟨by rw[hdl]; show l*(es+1)<=p.lim-off; omega,fun j hj=>?_⟩⟩
         ·have hj2:j<l*(es+1):=by rw[hdl] at hj; exact hj
          have hj':off+j<ks.length:=by omega
          obtain⟨v',g1,g2⟩:=hc1 (off+j) hj';refine⟨v',by rw[<- Nat.add_assoc] at g1; exact g1,?_⟩;simpa[List.getD_eq_getElem?_getD,List.getElem?_take,List.getElem?_drop,hj2] using g2
         ·have hj':off+j<p.lim:=by have:j<p.lim-off:=hj; omega
          have:=hc4 (off+j) hj';rw[<- Nat.add_assoc] at this;exact this
        have hW:=cells_append (vs:=new) (vs':=cs) hP rfl (by show((ks.drop off).take (l*(es+1))).length+new.length<=p.lim-off; rw[hdl,hnl]; omega) hcs;rw[show(Pl.mk p.c (p.base+off) (p.lim-off) true).base+((ks.drop off).take (l*(es+1))).length=p.base+off+l*(es+1) by rw[hdl]] at hW;obtain⟨s1,s2,s3,s4,s5⟩:=heap_setCells p.c cs (p.base+off+l*(es+1)) w
        have hst:(storeCells ⟨p.c,p.base+off+l*(es+1),none⟩ cs).run P w=.ok () (w.setCells p.c (p.base+off+l*(es+1)) cs):=by
         have:=run_storeCells_cells (P:=P) p.c (p.base+off+l*(es+1)) cs 0 w (fun j hj=>by
           obtain⟨v',g⟩:=(hc4 (off+l*(es+1)+j) (by omega)).1;rw[show p.base+off+l*(es+1)+0+j=p.base+(off+l*(es+1)+j) by omega,g]; rfl)
          (fun j hj=>by
           have:=(hc4 (off+l*(es+1)+j) (by omega)).2
           rwa [show p.base+off+l*(es+1)+0+j=p.base+(off+l*(es+1)+j) by omega]) (hcs.single hsg)
         simpa using this
        have hrun:=run_append_fits (P:=P) (ty:=o.type) (base:=some ⟨p.c,p.base+off,none⟩) (w:=w) (w':=w.setCells p.c (p.base+off+l*(es+1)) cs) (sLen:=l) (sCap:=cap) (x':=ρ' x) (n:=n) (cs:=cs.toArray) ht hu hdu hs (hlen w) (hfcn w rfl) hroom
         (fun a ha=>by cases ha; rw[add_lit']; exact hst) (fun hh=>by cases hh)
        obtain⟨a1,a2⟩:=adopt_step (w':=w.setCells p.c (p.base+off+l*(es+1)) cs) k1 (by rw[hlen']; exact hl) (.cells true (((ks.drop off).take (l*(es+1)))++new)) ⟨p.c,p.base+off,p.lim-off,true⟩ b p hm ho rfl (fun b' q hb' hq=>by
          have hbl:b<h.length:=(H.dom b p hm).1
          by_cases hbb:b'=b
          ·subst hbb; simp[hbl]
          ·rw[List.getElem?_set_ne (Ne.symm hbb)];have hlt:=(H.dom b' q hb').1;cases hg:h[b']? with
           | none=>rw[List.getElem?_eq_none_iff] at hg; omega
           | some kk =>
            by_cases hkd:kk=.dead
            ·rw[hkd]
            ·exact absurd (H.inj b b' p q hm hb' (by rw[hb0]; simp) (by rw[hg]; simpa using hkd) hq.symm ho).symm hbb) s1 s2 s3 s4 s5
         ⟨rfl,hW.mono (ins_sub k1 _)⟩ (fun _=>by show p.base+off=0; rw[H.off _ _ hm ho,hof0])
        refine⟨_,_,_,_,hwrap _ _ hrun,Or.inl rfl,?_,a1,k2.trans a2⟩;have hmm:ins m (h.set b Blk.dead).length ⟨p.c,p.base+off,p.lim-off,true⟩ h.length=some ⟨p.c,p.base+off,p.lim-off,true⟩:=by rw[hlen']; exact ins_self _ _ _
        exact .sl hmm hroom (fun _=>by show 0+cap*(es+1)<=p.lim-off; omega)
       ·exact growAt p _ cap hm rfl (by omega) (Or.inr rfl)
      | sl0 hm=>exact growAt _ _ 0 hm rfl (by omega) (Or.inl rfl)
     ·cases hr
    ·cases hr
   ·cases hr
 ·cases hr
end
section
variable [Start]
variable {P:Program}{lim:Nat}{o:Oper}{ρ ρ':Operand->Value}{m:Mp}{h h':Hp}{w:World}{v:Value}
theorem ba_beq {a b:ByteArray}:(a==b)=true<->a=b:=by
 rw[beq_toListBytes,ByteArray.toList_eq,ByteArray.toList_eq,beq_iff_eq];constructor
 ·intro h;obtain⟨⟨x⟩⟩:=a;obtain⟨⟨y⟩⟩:=b;simp only at h;rw[h]
 ·rintro rfl; rfl
def KD (s:Bool)(d:TypeDesc):Prop:=if s then d=.string else ∃k,d=.int k
theorem keyOk_inv {t:TypeId}{s:Bool}(h:keyOk P t=some s):∃d,P.underlying t=some d/\KD s d:=by
 unfold keyOk at h;split at h
 ·rename_i k e; cases h; exact⟨_,e,k,rfl⟩
 ·rename_i e; cases h; exact⟨_,e,rfl⟩
 ·cases h
theorem keyEq_inv {s:Bool}{a b:Value}{r:Bool}(h:keyEq s a b=some r):keyIs s a=true/\keyIs s b=true:=by
 cases s<;>cases a<;>cases b<;>simp[keyEq,keyIs] at h ⊢
theorem keyIs_same {s:Bool}{a a':Value}(h:keyIs s a=true)(hv:VR m a a'):a'=a:=by
 cases s<;>cases a<;>simp[keyIs] at h
 ·exact hv.int'
 ·exact hv.str'
theorem keyEq_now {s:Bool}{d:TypeDesc}{a b:Value}{r:Bool}(hd:KD s d)(h:keyEq s a b=some r):Instr.sameNow d a b=some r:=by
 cases s with
 | false =>
  obtain⟨k,rfl⟩:=hd;cases a<;>cases b<;>simp[keyEq] at h;simp[Instr.sameNow,h]
 | true =>
  simp only[KD,if_true] at hd;subst hd;cases a<;>cases b<;>simp[keyEq] at h;simp[Instr.sameNow,h]
theorem mfind_now {s:Bool}{d:TypeDesc}{k:Value}(hd:KD s d):∀(es:List (Value×Value)) (es':List MapEntry) (i:Nat) (r:Option (Nat×Value)),mfind s k es i=some r->es'.length=es.length ->
  (∀(j:Nat) (a b:Value),es[j]?=some (a,b)->∃e',es'[j]?=some e'/\VR m a e'.key/\VR m b e'.val) ->
  (r=none/\Instr.findNow d k es' i=some none)\/(∃j v v' kk,r=some (i+j,v)/\Instr.findNow d k es' i=some (some (i+j,v'))/\VR m v v'/\es[j]?=some (kk,v)/\keyEq s k kk=some true):=by
 intro es
 induction es with
 | nil =>
  intro es' i r h hl _;have:es'=[]:=by cases es' with | nil=>rfl | cons a b=>simp at hl
  subst this;unfold mfind at h;split at h
  ·cases h; exact Or.inl ⟨rfl,rfl⟩
  ·cases h
 | cons a es ih =>
  intro es' i r h hl hR;obtain⟨k',v⟩:=a;cases es' with
  | nil=>simp at hl
  | cons e' es' =>
   obtain⟨e2,he,g1,g2⟩:=hR 0 k' v rfl;simp only[List.getElem?_cons_zero,Option.some.injEq] at he;subst he;have hR':∀(j:Nat) (a b:Value),es[j]?=some (a,b)->∃e',es'[j]?=some e'/\VR m a e'.key/\VR m b e'.val:=fun j a b hj=>hR (j+1) a b hj;unfold mfind at h;split at h
   ·rename_i hk;cases h;have hkk:=keyIs_same (keyEq_inv hk).2 g1;refine Or.inr ⟨0,v,e'.val,k',by simp,?_,g2,rfl,hk⟩;simp[Instr.findNow,hkk,keyEq_now hd hk]
   ·rename_i hk;have hkk:=keyIs_same (keyEq_inv hk).2 g1;rcases ih es' (i+1) r h (by simpa using hl) hR' with⟨rfl,h2⟩ | ⟨j,v2,v2',kk,rfl,h2,h3,h4,h5⟩
    ·exact Or.inl ⟨rfl,by simp[Instr.findNow,hkk,keyEq_now hd hk,h2]⟩
    ·refine Or.inr ⟨j+1,v2,v2',kk,by rw[show i+(j+1)=i+1+j by omega],?_,h3,h4,h5⟩;rw[show i+(j+1)=i+1+j by omega];simp[Instr.findNow,hkk,keyEq_now hd hk,h2]
   ·cases h
theorem mfind_none {s:Bool}{k:Value}:∀(es:List (Value×Value)) (i:Nat),mfind s k es i=some none->∀x∈es,keyIs s x.1=true/\x.1≠k:=by
 intro es
 induction es with
 | nil=>intro i _ x hx; cases hx
 | cons y l ih =>
  intro i h x hx;obtain⟨k',v⟩:=y;rw[mfind] at h;cases hk:keyEq s k k' with
  | none=>rw[hk] at h; cases h
  | some b =>
   rw[hk] at h;cases b with
   | true=>cases h
   | false =>
    rcases List.mem_cons.1 hx with rfl | hx
    ·refine⟨(keyEq_inv hk).2,fun e=>?_⟩;have e:k'=k:=e;subst e;cases s
     ·cases k'<;>simp[keyEq] at hk
     ·cases k' with
      | string x =>
       have h1:(x==x)=true:=ba_beq.2 rfl;simp[keyEq,h1] at hk
      | _=>simp[keyEq] at hk
    ·exact ih (i+1) h x hx
theorem mfind_key {s:Bool}{k:Value}:∀(es:List (Value×Value)) (i:Nat) (r:Option (Nat×Value)),mfind s k es i=some r->keyIs s k=true:=by
 intro es
 induction es with
 | nil =>
  intro i r h;unfold mfind at h;split at h
  ·assumption
  ·cases h
 | cons a es ih =>
  intro i r h;obtain⟨k',v⟩:=a;unfold mfind at h;split at h
  ·rename_i hk; exact(keyEq_inv hk).1
  ·rename_i hk; exact(keyEq_inv hk).1
  ·cases h
theorem run_checkKey {t:TypeId}{d:TypeDesc}{s:Bool}{b:Bool}{n:Nat}{k:Value}(ht:P.underlying t=some d)(hd:KD s d)(w:World):(Instr.checkKey b (n+1) t k).run P w=.ok () w:=by
 unfold Instr.checkKey;simp only[Sem.run_bind,run_underlying ht,Result.andThen_ok];cases s with
 | false=>obtain⟨q,rfl⟩:=hd; rfl
 | true=>simp only[KD,if_true] at hd; subst hd; rfl
theorem run_findKey {t:TypeId}{d:TypeDesc}{k:Value}{es:List MapEntry}{r:Option (Nat×Value)}(ht:P.underlying t=some d)(hf:Instr.findNow d k es 0=some r)(w:World):(Instr.findKey t k es).run P w=.ok r w:=by
 unfold Instr.findKey;simp only[Sem.run_bind,run_underlying ht,Result.andThen_ok,hf];rfl
theorem run_getMap {r ck:Nat}{es:Array MapEntry}(hh:w.heap[r]?=some (.map es ck)):(getObj r).run P w=.ok (.map es ck) w:=by simp[getObj,Sem.run,hh]
theorem sim_mget {t kt e:TypeId}{s g ok:Bool}{z:List Value}{x k:Operand}(hop:o.op=.lookup t x k ok)(ht:P.underlying t=some (.map kt e))(hk:keyOk P kt=some s)(hz:zeroOf P e=some z)(hfit:zeroFits P e g z=true)
  (H:HR m h w)(hρ:∀x∈o.op.operands,VR m (ρ x) (ρ' x))(hr:(AOp.mget s z g ok x k).run lim ρ h=some (v,h')):Done P lim o ρ' m h w v h':=by
 rw[hop] at hρ;have h1:=hρ x (by simp[Op.operands]);have h2:=hρ k (by simp[Op.operands]);obtain⟨d,hd,hKD⟩:=keyOk_inv hk;obtain⟨i,zv,hi,hzz,hzc,hzk,-,hL⟩:=zeroOf_inv hz
 have hzero:zeroVal g z=zv/\VR m zv zv:=by
  refine⟨?_,.constK hzk⟩;simp only[zeroFits,hi,Option.bind_some,hzz] at hfit;unfold zeroVal;cases zv<;>simp[single] at hfit
  case agg cs=>rw[hfit.1,if_pos rfl,hzc]; rfl
  all_goals
   rw[hfit.1,if_neg (by simp),hzc];rfl
 simp only[AOp.run] at hr;split at hr
 ·rename_i es hes
  have hmap:∃es':Array MapEntry,es'.size=es.length/\(∀(j:Nat) (a b:Value),es[j]?=some (a,b)->∃e',es'[j]?=some e'/\VR m a e'.key/\VR m b e'.val) /\
    ((ρ' x=.map none/\es'=#[])\/∃r ck,ρ' x=.map (some r)/\w.heap[r]?=some (.map es' ck)):=by
   unfold mapOf at hes;split at hes
   ·rename_i ex;cases hes;rw[ex] at h1;generalize ρ' x=u at h1;cases h1;exact⟨#[],rfl,fun j a b hj=>by simp at hj,Or.inl ⟨rfl,rfl⟩⟩
   ·rename_i b ex;split at hes
    ·rename_i es2 hb;cases hes;rw[ex] at h1;generalize ρ' x=u at h1;cases h1 with
     | map hm =>
      obtain⟨-,es',ck,hh,hn,hR,-⟩:=H.blk _ _ _ hm hb;exact⟨es',hn,hR,Or.inr ⟨_,ck,rfl,hh⟩⟩
    ·cases hes
   ·cases hes
  obtain⟨es',hn,hR,hcase⟩:=hmap
  have hfin:∀(r:Option (Nat×Value)) (r':Value×Bool),Instr.findNow d (ρ' k) es'.toList 0=some r->r'=(match r with | some (_,v)=>(v,true) | none=>(zv,false)) ->
    (execOp ρ' o).run P w=.ok (.value (if ok then .tuple #[r'.1,.bool r'.2] else r'.1)) w:=by
   rintro r r' hf rfl;have hfk:=run_findKey hd hf w;simp only[execOp,hop];refine runV ?_;rcases hcase with⟨hx,rfl⟩ | ⟨q,ck,hx,hh⟩
   ·simp only[Instr.lookup,Sem.run_bind,run_underlying ht,Result.andThen_ok,hx,Sem.run_pure,run_checkKey hd hKD,hfk];cases r with
    | none=>simp only[Sem.run_bind,run_zeroValue' hi hzz,Result.andThen_ok,Sem.run_pure]
    | some q=>simp only[Sem.run_bind,Result.andThen_ok,Sem.run_pure]
   ·simp only[Instr.lookup,Sem.run_bind,run_underlying ht,Result.andThen_ok,hx,run_getMap hh,Sem.run_pure,run_checkKey hd hKD,hfk];cases r with
    | none=>simp only[Sem.run_bind,run_zeroValue' hi hzz,Result.andThen_ok,Sem.run_pure]
    | some q=>simp only[Sem.run_bind,Result.andThen_ok,Sem.run_pure]
  have hR':∀(j:Nat) (a b:Value),es[j]?=some (a,b)->∃e',es'.toList[j]?=some e'/\VR m a e'.key/\VR m b e'.val:=fun j a b hj=>by simpa using hR j a b hj
  have pairs:∀ {a a':Value} {c:Bool},VR m a a'->VR m (if ok then Value.tuple #[a,.bool c] else a) (if ok then Value.tuple #[a',.bool c] else a'):=by
   intro a a' c ha;cases ok
   ·exact ha
   ·exact LR.tup (.cons ha (.cons (.bool c) .nil))
  split at hr
  ·rename_i j v2 hmf;cases hr;have hkk:=keyIs_same (mfind_key _ _ _ hmf) h2;rw[<- hkk] at hmf;rcases mfind_now (m:=m) hKD es es'.toList 0 _ hmf (by simpa using hn) hR' with⟨hh,-⟩ | ⟨j2,v3,v3',kk,hh,h3,h4,-,-⟩
   ·cases hh
   ·cases hh;exact Done.pure H (hfin _ (v3',true) h3 rfl) (pairs h4)
  ·rename_i hmf;cases hr;have hkk:=keyIs_same (mfind_key _ _ _ hmf) h2;rw[<- hkk] at hmf;rcases mfind_now (m:=m) hKD es es'.toList 0 _ hmf (by simpa using hn) hR' with⟨-,h3⟩ | ⟨j2,v3,v3',kk,hh,-⟩
   ·rw[hzero.1];exact Done.pure H (hfin _ (zv,false) h3 rfl) (pairs hzero.2)
   ·cases hh
  ·cases hr
 ·cases hr
theorem sim_mput {t kt e:TypeId}{s:Bool}{x k y:Operand}(hop:o.op=.mapUpdate t x k y\/o.op=.insert t x k y)(ht:P.underlying t=some (.map kt e))(hk:keyOk P kt=some s)
  (H:HR m h w)(hρ:∀x∈o.op.operands,VR m (ρ x) (ρ' x))(hr:(AOp.mput s x k y).run lim ρ h=some (v,h')):Done P lim o ρ' m h w v h':=by
 have h1:=hρ x (by rcases hop with e | e<;>simp[e,Op.operands]);have h2:=hρ k (by rcases hop with e | e<;>simp[e,Op.operands]);have h3:=hρ y (by rcases hop with e | e<;>simp[e,Op.operands]);obtain⟨d,hd,hKD⟩:=keyOk_inv hk;simp only[AOp.run] at hr;split at hr
 ·rename_i b ex;rw[ex] at h1;split at hr
  ·rename_i es hb;split at hr
   ·rename_i hlim;obtain⟨u,hu⟩:∃u,ρ' x=u:=⟨_,rfl⟩;rw[hu] at h1;cases h1 with
    | map hm =>
     rename_i p;obtain⟨ho,es',ck,hh,hn,hR,hS⟩:=H.blk _ _ _ hm hb;have hR':∀(j:Nat) (a b:Value),es[j]?=some (a,b)->∃e',es'.toList[j]?=some e'/\VR m a e'.key/\VR m b e'.val:=fun j a b hj=>by simpa using hR j a b hj
     have hlt:p.c<w.heap.size:=(Array.getElem?_eq_some_iff.1 hh).1
     have put:∀(es2:List (Value×Value)) (es2':Array MapEntry) (ck':Nat),es2'.size=es2.length->MapKept.Stamped es2' ck' ->
       (∀(m':Mp),VR m' (ρ k) (ρ' k)->VR m' (ρ y) (ρ' y)->(∀(j:Nat) (a b:Value),es[j]?=some (a,b)->∃e',es'[j]?=some e'/\VR m' a e'.key/\VR m' b e'.val) ->
        ∀(j:Nat) (a b:Value),es2[j]?=some (a,b)->∃e',es2'[j]?=some e'/\VR m' a e'.key/\VR m' b e'.val) ->
       keyIs s (ρ k)=true ->
       (execOp ρ' o).run P w=.ok .skip { w with heap:=w.heap.setIfInBounds p.c (.map es2' ck') }->Done P lim o ρ' m h w undef (h.set b (.map es2)):=by
      intro es2 es2' ck' hsz hst hrel hki hrun
      obtain⟨q1,q2⟩:=write_step (lim:=lim) (w':={ w with heap:=w.heap.setIfInBounds p.c (.map es2' ck') }) (k':=.map es2) H hm hb (by simp) ho (by simp) (fun c hc=>by simp[Array.getElem?_setIfInBounds,Ne.symm hc]) rfl rfl rfl
       ⟨ho,es2',ck',by simp[hlt],hsz,hrel m h2 h3 hR,hst⟩ (fun hbl l hll hl hB=>by
        obtain⟨-,es3',ck3,hh3,hn3,hR3,-⟩:=hB;rw[hh] at hh3; cases hh3;refine⟨ho,es2',ck',by simp[hlt],hsz,hrel (cut l m) ?_ ?_ hR3,hst⟩
        ·have:=keyIs_same hki h2;rw[this];cases s<;>cases hq:ρ k<;>simp[keyIs,hq] at hki
         ·exact .int _ _
         ·exact .str _
        ·rcases hlim with hlim | hlim
         ·omega
         ·exact h3.flatA hlim)
      exact⟨.skip,undef,_,m,hrun,Or.inr ⟨rfl,rfl⟩,.undef,q1,q2⟩
     have hrunG:∀r,Instr.findNow d (ρ' k) es'.toList 0=some r->∀w2,(match r with
       | some (i,_)=>do
        let key <- Instr.keyThatStays (((es'[i]?).map (·.key)).getD (ρ' k)) (ρ' k)
        setObj p.c (.map (es'.modify i fun e=>{ e with key,val:=ρ' y }) ck)
       | none=>setObj p.c (.map (es'.push { key:=ρ' k,val:=ρ' y,born:=ck }) (ck+1)):Sem Unit).run P w=.ok () w2->(execOp ρ' o).run P w=.ok .skip w2:=by
      intro r hf w2 hrun;have:(execOp ρ' o)=(do Instr.mapUpdate t (ρ' x) (ρ' k) (ρ' y); pure .skip):=by rcases hop with e | e<;>simp[execOp,e]
      rw[this];simp only[Instr.mapUpdate,Sem.run_bind,run_underlying ht,Result.andThen_ok,hu,run_getMap hh,run_checkKey hd hKD,run_findKey hd hf];cases r with
      | none=>simp only[hrun,Result.andThen_ok,Sem.run_pure]
      | some q=>simp only[hrun,Result.andThen_ok,Sem.run_pure]
     have hset:∀ob:Obj,(setObj p.c ob).run P w=.ok () { w with heap:=w.heap.setIfInBounds p.c ob }:=by
      intro ob; simp[setObj,Sem.run,hh]
     split at hr
     ·rename_i j v2 hmf;cases hr;have hki:=mfind_key _ _ _ hmf;have hkk:=keyIs_same hki h2;have hmf':=hmf;rw[<- hkk] at hmf';rcases mfind_now (m:=m) hKD es es'.toList 0 _ hmf' (by simpa using hn) hR' with⟨hq,-⟩ | ⟨j2,v3,v3',kk,hq,f3,f4,f5,f6⟩
      ·cases hq
      ·simp only[Nat.zero_add,Option.some.injEq,Prod.mk.injEq] at hq;obtain⟨rfl,rfl⟩:=hq;simp only[Nat.zero_add] at f3;obtain⟨e',g1,g2,g3⟩:=hR j kk v2 f5;have hjl:j<es.length:=(List.getElem?_eq_some_iff.1 f5).1;have hjl':j<es'.size:=by omega
       have hek:e'.key=kk:=keyIs_same (keyEq_inv f6).2 g2
       have hkeq:kk=ρ' k:=by
        rw[hkk] at f6 ⊢;cases s<;>cases hq:ρ k<;>cases kk<;>simp[keyEq,hq] at f6 ⊢
        ·exact⟨f6.1.symm,f6.2.symm⟩
        ·exact(ba_beq.1 f6).symm
       have hstay:(Instr.keyThatStays (((es'[j]?).map (·.key)).getD (ρ' k)) (ρ' k)).run P w=.ok (ρ' k) w:=by
        have hsb:Instr.sameBits 10000 (ρ' k) (ρ' k)=true:=by
         rw[hkk];cases s<;>cases hq:ρ k<;>simp[keyIs,hq] at hki<;>simp[Instr.sameBits,ba_beq]
        simp[g1,hek,hkeq,Instr.keyThatStays,hsb]
       refine put _ (es'.modify j fun e=>{ e with key:=ρ' k,val:=ρ' y }) ck (by simp[hn]) (MapKept.stamped_modify hS j _ (fun _ _=>rfl) (fun e _ he=>by rw[g1] at he; cases he; show ρ' k=_; rw[hek]; exact hkeq.symm)) (fun m' k1 k2 hr2 j2 a b hj2=>?_) hki (hrunG _ f3 _ ?_)
       ·by_cases hjj:j=j2
        ·subst hjj;simp only[List.getElem?_set_self hjl,Option.some.injEq,Prod.mk.injEq] at hj2;obtain⟨rfl,rfl⟩:=hj2;refine⟨{ e' with key:=ρ' k,val:=ρ' y },?_,k1,k2⟩;rw[Array.getElem?_modify,if_pos rfl,g1]; rfl
        ·rw[List.getElem?_set_ne hjj] at hj2;obtain⟨e2,a1,a2,a3⟩:=hr2 j2 a b hj2;exact⟨e2,by rw[Array.getElem?_modify,if_neg hjj]; exact a1,a2,a3⟩
       ·simp only[Sem.run_bind,hstay,Result.andThen_ok,hset]
     ·rename_i hmf;cases hr;have hki:=mfind_key _ _ _ hmf;have hkk:=keyIs_same hki h2;have hmf':=hmf;rw[<- hkk] at hmf';rcases mfind_now (m:=m) hKD es es'.toList 0 _ hmf' (by simpa using hn) hR' with⟨-,f3⟩ | ⟨j2,v3,v3',kk,hq,-⟩
      ·refine put _ (es'.push { key:=ρ' k,val:=ρ' y,born:=ck }) (ck+1) (by simp[hn]) (MapKept.stamped_push hS (fun x hx he=>by
        obtain⟨jx,hjx⟩:=List.getElem?_of_mem hx
        have hjl:jx<es.length:=by
         have:=(List.getElem?_eq_some_iff.1 hjx).1;simp at this; omega
        have ej:es[jx]?=some ((es[jx]).1,(es[jx]).2):=by rw[List.getElem?_eq_getElem hjl]
        obtain⟨e2,a1,a2,a3⟩:=hR' jx _ _ ej;rw[hjx] at a1;cases a1;have hne:=mfind_none es 0 hmf' _ (List.getElem_mem hjl);have:=keyIs_same hne.1 a2;exact hne.2 (by rw[<- this,he]))) (fun m' k1 k2 hr2 j2 a b hj2=>?_) hki (hrunG _ f3 _ (hset _))
       by_cases hjj:j2<es.length
       ·rw[List.getElem?_append_left hjj] at hj2;obtain⟨e2,a1,a2,a3⟩:=hr2 j2 a b hj2;exact⟨e2,by rw[Array.getElem?_push,if_neg (by omega)]; exact a1,a2,a3⟩
       ·have:j2=es.length:=by
         have:=(List.getElem?_eq_some_iff.1 hj2).1;simp at this; omega
        subst this;simp only[List.getElem?_concat_length,Option.some.injEq,Prod.mk.injEq] at hj2;obtain⟨rfl,rfl⟩:=hj2;exact⟨_,by rw[Array.getElem?_push,if_pos hn.symm],k1,k2⟩
      ·cases hq
     ·cases hr
   ·cases hr
  ·cases hr
 ·cases hr
end
section
variable [Start]
variable {P:Program}{lim:Nat}{o:Oper}{ρ ρ':Operand->Value}{m:Mp}{h h':Hp}{w:World}{v:Value}
theorem sim_rng {t:TypeId}{x:Operand}(hop:o.op=.range t x)(ht:P.underlying t=some .string)(hl:lim<=h.length)(H:HR m h w)(hρ:∀x∈o.op.operands,VR m (ρ x) (ρ' x))
  (hr:(AOp.rng x).run lim ρ h=some (v,h')):Done P lim o ρ' m h w v h':=by
 rw[hop] at hρ;simp only[Op.operands,List.mem_toArray,List.mem_cons,List.not_mem_nil,or_false] at hρ;have h1:=hρ x rfl;simp only[AOp.run] at hr;split at hr
 ·rename_i s e;cases hr;rw[e] at h1;have h1:=h1.str';have hb:BR (ins m h.length ⟨w.heap.size,0,0,true⟩) (w.alloc (.stringIter s 0)) ⟨w.heap.size,0,0,true⟩ (.iter s 0):=⟨rfl,rfl,heap_new w _⟩;obtain⟨q1,q2⟩:=new_step (w':=w.alloc (.stringIter s 0)) H hl (.iter s 0) ⟨w.heap.size,0,0,true⟩ rfl (by simp) (fun c hc=>Go.RowKit.Below.heap_alloc w _ c hc) rfl rfl rfl hb;refine⟨.value (.pointer (some ⟨w.heap.size,0,none⟩)),_,w.alloc (.stringIter s 0),_,?_,Or.inl rfl,?_,q1,q2⟩
  ·simp only[execOp,hop];refine runV ?_;simp only[Instr.range,Sem.run_bind,run_underlying ht,Result.andThen_ok,h1,Sem.run_pure];simp[newObj,Sem.run]
  ·exact .ptr (ins_self _ _ _)
 ·cases hr
theorem sim_nxt {x:Operand}(hop:o.op=.next x true)(H:HR m h w)(hρ:∀x∈o.op.operands,VR m (ρ x) (ρ' x))
  (hr:(AOp.nxt x).run lim ρ h=some (v,h')):Done P lim o ρ' m h w v h':=by
 rw[hop] at hρ;simp only[Op.operands,List.mem_toArray,List.mem_cons,List.not_mem_nil,or_false] at hρ;have h1:=hρ x rfl;simp only[AOp.run] at hr;split at hr
 ·rename_i b e;split at hr
  ·rename_i s pos hb;rw[e] at h1;obtain⟨u,hu⟩:∃u,ρ' x=u:=⟨_,rfl⟩;rw[hu] at h1;cases h1 with
   | ptr hm =>
    rename_i p;obtain⟨ho,hbase,hheap⟩:=H.blk b p _ hm hb;have hlt:p.c<w.heap.size:=(H.dom b p hm).2;split at hr
    ·rename_i hpos;cases hr
     have hset:∀c,c≠p.c->({ w with heap:=w.heap.setIfInBounds p.c (.stringIter s (pos+(Utf8.decode s pos).2)) }:World).heap[c]?=w.heap[c]?:=fun c hc=>by
      simp[Array.getElem?_setIfInBounds_ne (Ne.symm hc)]
     have hnew:∀m',BR m' ({ w with heap:=w.heap.setIfInBounds p.c (.stringIter s (pos+(Utf8.decode s pos).2)) }:World) p (.iter s (pos+(Utf8.decode s pos).2)):=fun m' =>
      ⟨ho,hbase,by simp[hlt]⟩
     obtain⟨q1,q2⟩:=write_step (lim:=lim) (w':={ w with heap:=w.heap.setIfInBounds p.c (.stringIter s (pos+(Utf8.decode s pos).2)) }) (k':=.iter s (pos+(Utf8.decode s pos).2)) H hm hb (by simp) ho (by simp) hset rfl rfl rfl (hnew m) (fun _ l _ _ _=>hnew _);refine⟨.value (.tuple #[.bool true,goInt pos,.int .i32 (Utf8.decode s pos).1]),_,_,m,?_,Or.inl rfl,?_,q1,q2⟩
     ·simp only[execOp,hop];refine runV ?_;simp[Instr.next,hu,hbase,getObj,setObj,Sem.run,hheap,hpos]
     ·exact LR.tupL (.cons (.bool _) (.cons (.int _ _) (.cons (.int _ _) .nil)))
    ·rename_i hpos;cases hr;refine Done.pure (v':=.tuple #[.bool false]) H ?_ (LR.tupL (.cons (.bool _) .nil));simp only[execOp,hop];refine runV ?_;simp[Instr.next,hu,hbase,getObj,Sem.run,hheap,hpos]
  ·cases hr
 ·cases hr
end
section
variable [Start]
variable {P:Program}{lim:Nat}{o:Oper}{ρ ρ':Operand->Value}{m:Mp}{h h':Hp}{w:World}{v:Value}
theorem cBin_inv {op:BinOp}{t:TypeId}{x y:Operand}{a:AOp}(hc:cBin P op t x y=some a) :
  a=.bin op x y\/(∃neg agg ks x' y',a=.eqd neg agg ks x' y')\/∃k neg z,a=.isnil k neg z:=by
 simp only[cBin,Option.bind_eq_some_iff] at hc;obtain⟨d,hd,hc⟩:=hc
 have hA:cAgg P op t x y=some a->a=.bin op x y\/(∃neg agg ks x' y',a=.eqd neg agg ks x' y')\/∃k neg z,a=.isnil k neg z:=by
  intro h;unfold cAgg at h;split at h
  ·cases h
  ·simp only[Option.bind_eq_some_iff] at h;obtain⟨ks,-,h⟩:=h;split at h
   ·cases h; exact Or.inr (Or.inl ⟨_,_,_,_,_,rfl⟩)
   ·split at h
    ·cases h; exact Or.inr (Or.inl ⟨_,_,_,_,_,rfl⟩)
    ·cases h
 have hN:∀k,cNil op k x y=some a->a=.bin op x y\/(∃neg agg ks x' y',a=.eqd neg agg ks x' y')\/∃k neg z,a=.isnil k neg z:=by
  intro k h;unfold cNil at h;split at h
  ·split at h
   ·cases h; exact Or.inr (Or.inr ⟨_,_,_,rfl⟩)
   ·split at h
    ·cases h; exact Or.inr (Or.inr ⟨_,_,_,rfl⟩)
    ·cases h
  ·cases h
 cases d<;>simp only[cBinD,nkOf,Option.bind_some,Option.bind_none] at hc<;>first
  | (cases hc; done)
  | (cases hc; exact Or.inl rfl)
  | exact hA hc
  | exact hN _ hc
  | (unfold cBool at hc
     split at hc
     ·cases hc; exact Or.inr (Or.inl ⟨_,_,_,_,_,rfl⟩)
     ·split at hc
      ·cases hc; exact Or.inr (Or.inl ⟨_,_,_,_,_,rfl⟩)
      ·cases hc)
theorem builtin_sim {c:Call}{b:Builtin}{a:AOp}(hop:o.op=.call c)(hcb:c.callee=.builtin b)(hc:cBuiltin P b c.args.toList c.argTypes.toList=some a)(hl:lim<=h.length)
  (H:HR m h w)(hρ:∀x∈o.op.operands,VR m (ρ x) (ρ' x))(hr:a.run lim ρ h=some (v,h')):Done P lim o ρ' m h w v h':=by
 unfold cBuiltin at hc;split at hc
 ·rename_i x t e1 e2;split at hc
  ·rename_i ht; cases hc; exact sim_lnT hop hcb e1 e2 ht H hρ hr
  ·rename_i e ht; cases hc; exact sim_lnS hop hcb e1 e2 ht H hρ hr
  ·rename_i n e ht; cases hc; exact sim_lnA hop hcb e1 e2 (Or.inl ⟨e,ht⟩) H hr
  ·rename_i a' ht;split at hc
   ·rename_i n e ht2; cases hc; exact sim_lnA hop hcb e1 e2 (Or.inr ⟨a',e,ht,ht2⟩) H hr
   ·cases hc
  ·rename_i k e ht; cases hc; exact sim_lnM hop hcb e1 e2 ht H hρ hr
  ·cases hc
 ·rename_i s x t u e1 e2;split at hc
  ·rename_i e ht;split at hc
   ·cases hc
   ·rename_i du z by_ zz hdu hu hs hb hz;cases hc;exact sim_app hop hcb e1 e2 ht hu hdu hs hb hz hl H hρ hr
   ·cases hc
  ·cases hc
 ·cases hc; exact sim_mn hop hcb rfl rfl H hρ hr
 ·cases hc; exact sim_mx hop hcb rfl rfl H hρ hr
 ·rename_i d x t ts e1 e2;split at hc
  ·rename_i e ht;split at hc
   ·rename_i z hs; cases hc; exact sim_copy hop hcb e1 e2 ht hs (Nat.succ_pos _) H hρ hr
   ·cases hc
  ·cases hc
 ·rename_i x t e1 e2;split at hc
  ·rename_i e ht;split at hc
   ·rename_i z zs hs hz; cases hc; exact sim_clrS hop hcb e1 e2 ht hz H hρ hr
   ·cases hc
  ·cases hc
 ·cases hc
theorem op_sim {a:AOp}(hc:cOp P o.op=some a)(hcall:∀f args,a≠.call f args)(hcc:∀c,ρ' (.const c)=c)(hl:lim<=h.length)
  (H:HR m h w)(hρ:∀x∈o.op.operands,VR m (ρ x) (ρ' x))(hr:a.run lim ρ h=some (v,h')):Done P lim o ρ' m h w v h':=by
 have hc0:=hc;cases hop:o.op with
 | move x=>rw[hop] at hc; cases hc; exact sim_mov (Or.inl hop) H hρ hr
 | assign x=>rw[hop] at hc; cases hc; exact sim_mov (Or.inr hop) H hρ hr
 | pick c x y=>rw[hop] at hc; cases hc; exact sim_pick hop H hρ hr
 | alloc t =>
  rw[hop] at hc;simp only[cOp,Option.map_eq_some_iff] at hc;obtain⟨z,hz,rfl⟩:=hc;simp only[AOp.run,Option.some.injEq,Prod.mk.injEq] at hr;obtain⟨rfl,rfl⟩:=hr;exact(mk_zero hop hz).done H hl
 | box t x =>
  rw[hop] at hc; cases hc;simp only[AOp.run,Option.some.injEq,Prod.mk.injEq] at hr;obtain⟨rfl,rfl⟩:=hr;exact(mk_box hop hρ).done H hl
 | build t ps =>
  rw[hop] at hc;simp only[cOp] at hc;split at hc
  ·rename_i z l hz hp; cases hc; exact sim_build hop hz hp H hρ hr
  ·cases hc
 | buildSlice t len ps =>
  rw[hop] at hc;simp only[cOp] at hc;split at hc
  ·rename_i e ht;split at hc
   ·rename_i s z hs hz;split at hc
    ·rename_i hle;cases hc;simp only[AOp.run,Option.map_eq_some_iff,Prod.mk.injEq] at hr;obtain⟨cs,hf,rfl,rfl⟩:=hr;exact(mk_bsl hop ht hs hz hle hρ hf).done H hl
    ·cases hc
   ·cases hc
  ·cases hc
 | insert t x k y =>
  rw[hop] at hc;simp only[cOp] at hc;split at hc
  ·rename_i kt e ht;simp only[Option.map_eq_some_iff] at hc;obtain⟨s,hs,rfl⟩:=hc;exact sim_mput (Or.inr hop) ht hs H hρ hr
  ·cases hc
 | mapUpdate t x k y =>
  rw[hop] at hc;simp only[cOp] at hc;split at hc
  ·rename_i kt e ht;simp only[Option.map_eq_some_iff] at hc;obtain⟨s,hs,rfl⟩:=hc;exact sim_mput (Or.inl hop) ht hs H hρ hr
  ·cases hc
 | load t x =>
  rw[hop] at hc;simp only[cOp] at hc;split at hc
  ·cases hc; exact sim_ldn hop hc0 H hρ hr
  ·cases hc; exact sim_ld hop hc0 H hρ hr
  ·cases hc
 | store t x y =>
  rw[hop] at hc;simp only[cOp,Option.map_eq_some_iff] at hc;obtain⟨n,hn,rfl⟩:=hc;exact sim_st hop hn H hρ hr
 | nilCheck x=>rw[hop] at hc; cases hc; exact sim_nilc hop H hρ hr
 | binOp op t x y yt =>
  rw[hop] at hc;simp only[cOp] at hc;rcases cBin_inv hc with rfl | ⟨neg,agg,ks,x',y',rfl⟩ | ⟨k,neg,z,rfl⟩
  ·exact sim_bin hop H hρ hr
  ·exact sim_eqd hop hc0 H hρ hr
  ·exact sim_isnil hop hc0 H hρ hr hcc
 | unOp op t x=>rw[hop] at hc; cases hc; exact sim_un hop H hρ hr
 | convert s d x =>
  rw[hop] at hc;simp only[cOp] at hc;rcases cConv_inv hc with⟨k,k',rfl,e1,e2⟩ | ⟨k',rfl,e1,e2⟩ | ⟨rfl,e1,e2⟩ | ⟨e,rfl,e1,e2,e3,e4⟩ | ⟨e,rfl,e1,e2,e3,e4⟩
  ·exact sim_i2i hop e1 e2 H hρ hr
  ·exact sim_i2s hop e1 e2 H hρ hr
  ·exact sim_s2s hop e1 e2 H hρ hr
  ·simp only[AOp.run] at hr;split at hr
   ·rename_i b eb; cases hr; exact(mk_s2b hop e1 e2 e3 hρ eb).done H hl
   ·cases hr
  ·exact sim_b2s hop e1 e2 e3 H hρ hr
 | sliceToArrayPointer t x =>
  rw[hop] at hc;simp only[cOp] at hc;split at hc
  ·cases hc; exact sim_arrP hop hc0 H hρ hr
  ·cases hc
 | makeInterface t x =>
  rw[hop] at hc;simp only[cOp] at hc;split at hc
  ·cases hc
  ·cases hc; exact sim_ifc hop hc0 H hρ hr
  ·cases hc
 | makeFunc f x y =>
  rw[hop] at hc;simp only[cOp] at hc;split at hc
  ·cases hc; exact sim_fn hop H hρ hr
  ·cases hc
 | makeMap t r =>
  rw[hop] at hc;simp only[cOp] at hc;split at hc
  ·rename_i ht; cases hc; simp only[AOp.run,Option.some.injEq,Prod.mk.injEq] at hr; obtain⟨rfl,rfl⟩:=hr; exact(mk_mkM hop ⟨_,_,ht⟩ (Or.inl rfl) hcc).done H hl
  ·rename_i ht; cases hc; simp only[AOp.run,Option.some.injEq,Prod.mk.injEq] at hr; obtain⟨rfl,rfl⟩:=hr; exact(mk_mkM hop ⟨_,_,ht⟩ (Or.inr ⟨_,_,rfl⟩) hcc).done H hl
  ·cases hc
 | makeSlice t x y =>
  rw[hop] at hc;simp only[cOp] at hc;split at hc
  ·rename_i e ht;split at hc
   ·rename_i s b z hs hb hz;cases hc;simp only[AOp.run] at hr;split at hr
    ·rename_i ex ey;split at hr
     ·rename_i hcc; cases hr; exact(mk_mkS hop ht hs hb hz hρ ex ey hcc).done H hl
     ·cases hr
    ·cases hr
   ·cases hc
  ·cases hc
 | slice t x lo hi mx =>
  cases mx with
  | some mx=>rw[hop] at hc; simp[cOp] at hc
  | none =>
   rw[hop] at hc;simp only[cOp] at hc;split at hc
   ·cases hc; exact sim_cutT hop hc0 H hρ hr
   ·split at hc
    ·cases hc; exact sim_cutS hop hc0 H hρ hr
    ·cases hc
   ·split at hc
    ·cases hc; exact sim_cutA hop hc0 H hρ hr
    ·cases hc
   ·cases hc
 | fieldAddr t x i =>
  rw[hop] at hc;simp only[cOp] at hc;split at hc
  ·split at hc
   ·split at hc
    ·cases hc; exact sim_off hop hc0 H hρ hr
    ·cases hc
   ·cases hc
  ·cases hc
 | field t x i =>
  rw[hop] at hc;simp only[cOp] at hc;split at hc
  ·split at hc
   ·split at hc
    ·cases hc; exact sim_fld hop hc0 H hρ hr
    ·cases hc
   ·cases hc
  ·cases hc
 | indexAddr t x i =>
  rw[hop] at hc;simp only[cOp] at hc;split at hc
  ·split at hc
   ·cases hc; exact sim_ixA hop hc0 H hρ hr
   ·cases hc
  ·split at hc
   ·cases hc; exact sim_ixS hop hc0 H hρ hr
   ·cases hc
  ·cases hc
 | index t x i =>
  rw[hop] at hc;simp only[cOp] at hc;split at hc
  ·cases hc; exact sim_chS hop hc0 H hρ hr
  ·split at hc
   ·cases hc; exact sim_el hop hc0 H hρ hr
   ·cases hc
  ·cases hc
 | lookup t x k ok =>
  rw[hop] at hc;simp only[cOp] at hc;split at hc
  ·rename_i kt e ht;split at hc
   ·rename_i z g s hz hg hs;split at hc
    ·rename_i hf; cases hc; exact sim_mget hop ht hs hz hf H hρ hr
    ·cases hc
   ·cases hc
  ·cases hc
 | extract t i=>rw[hop] at hc; cases hc; exact sim_ext hop H hρ hr
 | call c =>
  rw[hop] at hc;simp only[cOp] at hc;split at hc
  ·cases hc; exact absurd rfl (hcall _ _)
  ·rename_i b hb; exact builtin_sim hop hb hc hl H hρ hr
  ·cases hc
 | ready g=>rw[hop] at hc; cases hc
 | waits g=>rw[hop] at hc; cases hc
 | makeChan t s=>rw[hop] at hc; cases hc
 | mapEntry t x k=>rw[hop] at hc; cases hc
 | entryStore t x s y=>rw[hop] at hc; cases hc
 | range t x =>
  rw[hop] at hc;simp only[cOp] at hc;split at hc
  ·rename_i ht; cases hc; exact sim_rng hop ht hl H hρ hr
  ·cases hc
 | next x s =>
  rw[hop] at hc;cases s with
  | true=>cases hc; exact sim_nxt hop H hρ hr
  | false=>cases hc
 | entry x=>rw[hop] at hc; cases hc
 | typeAssert x t a ok=>rw[hop] at hc; cases hc
 | go c=>rw[hop] at hc; cases hc
 | defer c=>rw[hop] at hc; cases hc
 | panic x=>rw[hop] at hc; cases hc
 | send ch x=>rw[hop] at hc; cases hc
 | recv t ch ok=>rw[hop] at hc; cases hc
 | select cs b=>rw[hop] at hc; cases hc
end
section
variable [Start]
variable {P:Program}{lim n:Nat}{X:Nat->Prop}{m:Mp}{h h':Hp}{w:World}{v:Value}
abbrev FW (r:Option Nat):Fence:={ Fence.wide with round:=r }
structure FR (m:Mp)(n:Nat)(X:Nat->Prop)(f:Fr)(tmps:Array Value):Prop where
 size:tmps.size=n
 get:∀t,t<n->¬ X t->VR m (f.rd t) (tmps.getD t undef)
theorem rd_st1:∀(f:Fr) (t:Nat) (v:Value) (u:Nat),(f.st t v).rd u=if u=t then v else f.rd u:=by
 intro f
 have nilcase:∀(t:Nat) (v:Value) (u:Nat),(Fr.st [] t v).rd u=if u=t then v else Fr.rd [] u:=by
  intro t
  induction t with
  | zero=>intro v u; cases u<;>simp[Fr.st,Fr.rd]
  | succ t ih =>
   intro v u;cases u with
   | zero=>simp[Fr.st,Fr.rd]
   | succ u =>
    have:=ih v u;simp only[Fr.rd,Fr.st] at this ⊢;simpa using this
 induction f with
 | nil=>exact nilcase
 | cons x f ih =>
  intro t v u;cases t with
  | zero=>cases u<;>simp[Fr.st,Fr.rd]
  | succ t =>
   cases u with
   | zero=>simp[Fr.st,Fr.rd]
   | succ u =>
    have:=ih t v u;simp only[Fr.rd,Fr.st] at this ⊢;simpa using this
theorem FR.mono {m m':Mp}(hs:Sub m m'){f:Fr}{tmps:Array Value}(F:FR m n X f tmps):FR m' n X f tmps:=⟨F.size,fun t ht hx=>(F.get t ht hx).mono hs⟩
theorem FR.st {f:Fr}{tmps:Array Value}{d:Nat}{v v':Value}(F:FR m n X f tmps)(hd:d<n)(hv:VR m v v'):FR m n X (f.st d v) (tmps.setIfInBounds d v'):=by
 refine⟨by simpa using F.size,fun t ht hx=>?_⟩;rw[rd_st1];have hs:=F.size
 by_cases e:t=d
 ·subst e;rw[if_pos rfl];simpa[Array.getD_eq_getD_getElem?,hs,ht] using hv
 ·rw[if_neg e];have:=F.get t ht hx;simpa[Array.getD_eq_getD_getElem?,Array.getElem?_setIfInBounds_ne (Ne.symm e)] using this
theorem FR.put {f:Fr}{a:Act}{d:Option Nat}{v v':Value}(F:FR m n X f a.tmps)(hd:dstOk n d=true)(hv:VR m v v'):FR m n X (Ab.put f d v) (a.put d v').tmps:=by
 cases d with
 | none=>exact F
 | some d=>exact F.st (by simpa[dstOk] using hd) hv
theorem put_defers (a:Act)(d:Option Nat)(v:Value):(a.put d v).defers=a.defers:=by cases d<;>rfl
theorem FR.ev {f:Fr}{a:Act}{x:Operand}(F:FR m n X f a.tmps)(hx:opdOk n x=true)(hX:∀t,x=.tmp t->¬ X t):VR m (f.ev x) (a.eval x):=by
 cases x with
 | tmp t=>exact F.get t (by simpa[opdOk] using hx) (hX t rfl)
 | const v=>exact .constK (show constK v=true from by simpa[opdOk] using hx)
 | global g=>simp[opdOk] at hx
 | func g=>exact .fn _ rfl rfl (fun i hi=>absurd hi (Nat.not_lt_zero _)) (fun i hi=>absurd hi (Nat.not_lt_zero _))
theorem goes_wanted {ops:Array Oper}{o:Oper}{g:Option (Nat×Bool)}{f:Fr}{tmps:Array Value}(hg:cGuard ops o.guard=some g)(hgo:gOk n g=true)(F:FR m n X f tmps)(hX:∀t w,g=some (t,w)->¬ X t) :
  Region.wanted o (yielded ops tmps)=goes f g:=by
 unfold cGuard at hg;unfold Region.wanted;split at hg
 ·rename_i e; cases hg; rw[e]; rfl
 ·rename_i j wnt e;rw[e];split at hg
  ·rename_i t ht;cases hg;have htn:t<n:=by simpa[gOk] using hgo
   have hv:=F.get t htn (hX t _ rfl);have hs:=F.size;simp only[yielded,ht,Option.bind_some,goes];have e1:tmps[t]?=some (tmps.getD t undef):=by simp[Array.getD_eq_getD_getElem?,hs,htn]
   rw[e1];generalize tmps.getD t undef=u at hv;generalize f.rd t=q at hv;cases hv<;>simp
  ·cases hg
theorem looks_opd {ops:Array Oper}{o:Oper}{t:Nat}(hx:Operand.tmp t∈o.op.operands):t∈o.looksAt ops:=by
 unfold Oper.looksAt;rw[List.mem_append];left;rw[List.mem_filterMap];exact⟨.tmp t,by simpa using hx,rfl⟩
theorem looks_guard {ops:Array Oper}{o:Oper}{g:Option (Nat×Bool)}{t:Nat}{w:Bool}(hg:cGuard ops o.guard=some g)(e:g=some (t,w)):t∈o.looksAt ops:=by
 subst e;unfold Oper.looksAt;rw[List.mem_append];right;unfold cGuard at hg;split at hg
 ·cases hg
 ·rename_i j w' e;split at hg
  ·rename_i t' ht;cases hg;rw[e];simp[ht]
  ·cases hg
def CallOk (P:Program)(call:CallT)(lim:Nat):Prop :=
 (∀(g:FuncId) (args:List Value) (h:Hp) (v:Value) (h':Hp),call (.func g) args h=some (v,h')->∀(m:Mp) (w:World) (args':Array Value),HR m h w->lim<=h.length->LR m args args'.toList ->
  (∀W,(callFunc g args').run P W=.ok (.enter g args') W) /\
  CallsIn Fence.wide 0 P g args' w (fun e w'=>∃v' m',e=.returned v'/\VR m' v v'/\HR m' h' w'/\Step lim m h w m' h' w')) /\
 ∀(l:Nat) (args:List Value) (h:Hp) (v:Value) (h':Hp),call (.yield l) args h=some (v,h')->∀(m:Mp) (w:World) (args':Array Value) (p:Pl),m l=some p->HR m h w->lim<=h.length->LR m args args'.toList ->
  ∃fn tmps ca cb,(Instr.yield p.c args').run P w=.ok (.round p.c fn tmps ca cb) w /\
  RoundIn Fence.wide 0 P p.c fn tmps ca cb w (fun e w'=>∃v' m',e=.returned v'/\VR m' v v'/\HR m' h' w'/\Step lim m h w m' h' w')
theorem go_run {call:CallT}{ρ:Operand->Value}{ao:AOp}{r:Value×Hp}(hcall:∀f args,ao≠.call f args)(h0:ao.go call lim ρ h=some r):ao.run lim ρ h=some r:=by
 cases ao<;>first
  | exact h0
  | exact absurd rfl (hcall _ _)
theorem semAt_ok {r:Option Nat}{ρ:Operand->Value}{o:Oper}(hnd:∀c,o.op≠.defer c):o.semAt r ρ=execOp ρ o:=by
 unfold Oper.semAt;split
 ·rename_i c e; exact absurd e (hnd c)
 ·rfl
theorem op_wp {call:CallT}{ops:Array Oper}{o:Oper}{g:Option (Nat×Bool)}{ao:AOp}(hc:cOper P n ops o=some (g,ao))(hco:CallOk P call lim){f f':Fr}(hr:(AI.op o.dst g ao).run call lim f h=some (f',h'))
  (hl:lim<=h.length){a:Act}(F:FR m n X f a.tmps)(hX:∀t∈o.looksAt ops,¬ X t)(H:HR m h w)(r:Option Nat)(K:Act->World->Prop)(Q:Exit->Act->World->Prop)
  (hK:∀m' a' w',FR m' n X f' a'.tmps->a'.defers=a.defers->HR m' h' w'->Step lim m h w m' h' w'->K a' w') :
  if Region.wanted o (yielded ops a.tmps) then o.wpIn (FW r) 0 P a w K Q else(∀f,o.about P w a.eval=some f->(FW r).fn f)/\K (a.put o.dst undef) w:=by
 unfold cOper at hc;split at hc
 ·rename_i g' a' hg ha;split at hc
  ·rename_i hok;cases hc;simp only[Bool.and_eq_true] at hok;obtain⟨⟨hopds,hdst⟩,hgo⟩:=hok;rw[goes_wanted hg hgo F (fun t wnt e=>hX t (looks_guard hg e))];simp only[AI.run] at hr
   have hρ:∀x∈o.op.operands,VR m (f.ev x) (a.eval x):=fun x hx=>F.ev (by
    unfold opdsOk at hopds;rw[List.all_eq_true] at hopds;exact hopds x (by simpa using hx)) (fun t e=>hX t (looks_opd (e▸hx)))
   have hnd:∀c,o.op≠.defer c:=by intro c e; rw[e] at ha; cases ha
   split at hr
   ·rename_i hgoes;rw[if_pos hgoes];simp only[Option.map_eq_some_iff,Prod.mk.injEq] at hr;obtain⟨⟨v,h2⟩,hrun,rfl,rfl⟩:=hr;refine⟨fun _ _=>trivial,?_⟩;rw[semAt_ok hnd]
    by_cases hcall:∃fv args,ao=.call fv args
    ·obtain⟨fv,args,rfl⟩:=hcall
     have hcl:∃c,o.op=.call c/\c.callee=.value fv/\c.args.toList=args:=by
      cases hop:o.op with
      | call c =>
       rw[hop] at ha;simp only[cOp] at ha;split at ha
       ·rename_i f2 hf2; cases ha; exact⟨c,rfl,hf2,rfl⟩
       ·rename_i b hb;exfalso;unfold cBuiltin at ha
        repeat' split at ha
        all_goals (cases ha)
       ·cases ha
      | binOp op t x y yt =>
       rw[hop] at ha;simp only[cOp] at ha;rcases cBin_inv ha with h1 | ⟨_,_,_,_,_,h1⟩ | ⟨_,_,_,h1⟩<;>cases h1
      | convert s d x =>
       rw[hop] at ha;simp only[cOp] at ha;rcases cConv_inv ha with⟨_,_,h1,_⟩ | ⟨_,h1,_⟩ | ⟨h1,_⟩ | ⟨_,h1,_⟩ | ⟨_,h1,_⟩<;>cases h1
      | slice t x lo hi mx =>
       exfalso;rw[hop] at ha;cases mx with
       | some mx=>simp[cOp] at ha
       | none =>
        simp only[cOp] at ha
        repeat' split at ha
        all_goals (cases ha)
      | next x b =>
       exfalso;rw[hop] at ha;cases b<;>cases ha
      | _ =>
       exfalso;rw[hop] at ha
       try simp only[cOp] at ha
       repeat' split at ha
       all_goals first
        | (cases ha; done)
        | (simp only[Option.map_eq_some_iff] at ha; obtain⟨_,_,ha⟩:=ha; cases ha)
     obtain⟨c,hop,hcv,hargs⟩:=hcl;rw[hop] at hρ;simp only[AOp.go] at hrun;split at hrun
     ·rename_i gid first captured hfv
      have hfv2:=hρ fv (by simp[Op.operands,Call.operands,hcv]);rw[hfv] at hfv2;obtain⟨u,hu⟩:∃u,a.eval fv=u:=⟨_,rfl⟩;rw[hu] at hfv2;cases hfv2 with
      | fn _ na nb ha1 hb1 =>
       rename_i first' captured'
       have hL:LR m (first.toList++args.map f.ev++captured.toList) (first'++(args.map a.eval).toArray++captured').toList:=by
        simp only[Array.toList_append];refine((LR.arr.2 ⟨na,ha1⟩).append (LR.map fun x hx=>hρ x ?_)).append (LR.arr.2 ⟨nb,hb1⟩);exact call_mem hargs hx
       obtain⟨c1,c2⟩:=hco.1 gid _ h v h2 hrun m w _ H hl hL
       have hexec:(execOp a.eval o).run P w=.ok (.enter gid (first'++(args.map a.eval).toArray++captured')) w:=by
        have hca:c.args=args.toArray:=by apply Array.ext'; simpa using hargs
        have c1':=c1 w;simp only[execOp,hop,resolve,hcv,hu,hca,Deferred.ofValue,Sem.run_bind,Sem.run_pure,Result.andThen_ok,invoke,List.map_toArray];exact c1'
       rw[hexec];rw[Oper.uponIn_enter];refine⟨fun hh=>by simp[FW,Fence.wide] at hh,?_⟩;refine CallsIn.mono (show CallsIn (FW r) (0-1) P gid _ w _ from c2) ?_;rintro e w' ⟨v',m',rfl,hv,H',S⟩;exact hK m' _ w' ((F.mono S.ext).put hdst hv) (put_defers _ _ _) H' S
     ·rename_i l first captured hfv
      split at hrun
      ·rename_i hz;have hfv2:=hρ fv (by simp[Op.operands,Call.operands,hcv]);rw[hfv] at hfv2;obtain⟨u,hu⟩:∃u,a.eval fv=u:=⟨_,rfl⟩;rw[hu] at hfv2;cases hfv2 with
       | yl hm =>
        rename_i p
        have hL:LR m (args.map f.ev) ((args.map a.eval).toArray).toList:=by
         simpa using LR.map (l:=args) fun x hx=>hρ x (call_mem hargs hx)
        obtain⟨fn,tmps,ca,cb,c1,c2⟩:=hco.2 l _ h v h2 hrun m w _ p hm H hl hL
        have hexec:(execOp a.eval o).run P w=.ok (.round p.c fn tmps ca cb) w:=by
         have hca:c.args=args.toArray:=by apply Array.ext'; simpa using hargs
         simp only[execOp,hop,resolve,hcv,hu,hca,Deferred.ofValue,Sem.run_bind,Sem.run_pure,Result.andThen_ok,invoke,List.map_toArray];simpa using c1
        rw[hexec];rw[Oper.uponIn_round];refine⟨fun hh=>by simp[FW,Fence.wide] at hh,?_⟩;refine RoundIn.mono (show RoundIn (FW r) (0-1) P p.c fn tmps ca cb w _ from c2) ?_;rintro e w' ⟨v',m',rfl,hv,H',S⟩;exact hK m' _ w' ((F.mono S.ext).put hdst hv) (put_defers _ _ _) H' S
      ·cases hrun
     ·cases hrun
    ·have hcall':∀fv args,ao≠.call fv args:=fun fv args e=>hcall ⟨fv,args,e⟩;obtain⟨nx,v',w',m',q1,q2,q3,q4,q5⟩:=op_sim (ρ':=a.eval) ha hcall' (fun _=>rfl) hl H hρ (go_run hcall' hrun);rw[q1];rcases q2 with rfl | ⟨rfl,rfl⟩
     ·exact hK m' _ w' ((F.mono q5.ext).put hdst q3) (put_defers _ _ _) q4 q5
     ·exact hK m' _ w' ((F.mono q5.ext).put hdst q3) (put_defers _ _ _) q4 q5
   ·rename_i hgoes;rw[if_neg hgoes];cases hr;exact⟨fun _ _=>trivial,hK m _ w (F.put hdst .undef) (put_defers _ _ _) H (Step.refl _ _ _ _)⟩
  ·cases hc
 ·cases hc
end
section
variable [Start]
variable {P:Program}{lim n:Nat}{X:Nat->Prop}{m:Mp}{h h':Hp}{w:World}{v:Value}
theorem plain_wp {call:CallT}(hco:CallOk P call lim){ops:Array Oper}(r:Option Nat)(Q:Exit->Act->World->Prop):∀(l:List Oper) (k:Nat) (ais:List AI),(∀j,l[j]?=ops[k+j]?)->cPlain P n ops l=some ais ->
  ∀ {f f':Fr} {h h':Hp},runL call lim ais f h=some (f',h')->lim<=h.length->∀ {m:Mp} {a:Act} {w:World},FR m n (fun _=>False) f a.tmps->HR m h w ->
  (∀m' a' w',FR m' n (fun _=>False) f' a'.tmps->a'.defers=a.defers->HR m' h' w'->Step lim m h w m' h' w'->Q .normal a' w') ->
  wpOpsIn (FW r) 0 P ops Q (List.range' k l.length) a w:=by
 intro l
 induction l with
 | nil =>
  intro k ais _ hc f f' h h' hr hl m a w F H hQ;cases hc;cases hr;exact hQ m a w F rfl H (Step.refl _ _ _ _)
 | cons o l ih =>
  intro k ais hget hc f f' h h' hr hl m a w F H hQ;unfold cPlain at hc;split at hc
  ·rename_i g ao l2 hco1 hc2;cases hc;simp only[runL] at hr;split at hr
   ·rename_i f1 h1 hr1;have ho:ops[k]?=some o:=by have:=hget 0; simpa using this.symm
    rw[List.length_cons,List.range'_succ,wpOpsIn_cons];unfold wpOpIn;rw[ho];simp only;refine op_wp (X:=fun _=>False) hco1 hco hr1 hl F (fun _ _=>id) H r _ Q fun m' a' w' F' hd H' S=>?_;refine ih (k+1) l2 (fun j=>by have:=hget (j+1); simpa[Nat.add_assoc,Nat.add_comm 1 j] using this) hc2 hr (Nat.le_trans hl S.len) F' H' fun m2 a2 w2 F2 hd2 H2 S2=>?_;exact hQ m2 a2 w2 F2 (hd2.trans hd) H2 (S.trans S2)
   ·cases hr
  ·cases hc
def mkv (ρ:Operand->Value):AOp->Nat->Value
 | .bsl es _ _ len,b=>.slice (some ⟨b,0,none⟩) len es
 | .s2b x,b=>match ρ x with
  | .string s=>.slice (some ⟨b,0,none⟩) s.size 1
  | _=>undef
 | .mkS es _ _ l _,b=>match ρ l with
  | .int _ l=>.slice (some ⟨b,0,none⟩) l.toNat es
  | _=>undef
 | .mkM,b=>.map (some b)
 | _,b=>.pointer (some ⟨b,0,none⟩)
theorem make_run {ao:AOp}{ρ:Operand->Value}(hm:makes ao=true)(hr:ao.run lim ρ h=some (v,h')):∃k,v=mkv ρ ao h.length/\h'=h++[k]/\∀h2,ao.run lim ρ h2=some (mkv ρ ao h2.length,h2++[k]):=by
 cases ao<;>simp only[makes,Bool.false_eq_true] at hm
 case box x=>simp only[AOp.run,Option.some.injEq,Prod.mk.injEq] at hr; obtain⟨rfl,rfl⟩:=hr; exact⟨_,rfl,rfl,fun _=>rfl⟩
 case zero cs=>simp only[AOp.run,Option.some.injEq,Prod.mk.injEq] at hr; obtain⟨rfl,rfl⟩:=hr; exact⟨_,rfl,rfl,fun _=>rfl⟩
 case bsl es z ps len =>
  simp only[AOp.run,Option.map_eq_some_iff,Prod.mk.injEq] at hr;obtain⟨cs,hf,rfl,rfl⟩:=hr;exact⟨_,rfl,rfl,fun h2=>by simp only[AOp.run,hf,Option.map_some]; rfl⟩
 case s2b x =>
  simp only[AOp.run] at hr;split at hr
  ·rename_i s e;cases hr;exact⟨.cells true (s.data.toList.map fun b=>.int .u8 b.toNat),by simp[mkv,e],rfl,fun h2=>by simp[AOp.run,e,mkv]⟩
  ·cases hr
 case mkS es by_ z l c =>
  simp only[AOp.run] at hr;split at hr
  ·rename_i x y ex ey;split at hr
   ·rename_i hc;cases hr;exact⟨.cells true (repl x.toNat z),by simp[mkv,ex],rfl,fun h2=>by simp[AOp.run,ex,ey,hc,mkv]⟩
   ·cases hr
  ·cases hr
 case mkM=>simp only[AOp.run,Option.some.injEq,Prod.mk.injEq] at hr; obtain⟨rfl,rfl⟩:=hr; exact⟨_,rfl,rfl,fun _=>rfl⟩
theorem make_made {o:Oper}{ao:AOp}{ρ ρ':Operand->Value}{k:Blk}(hm:makes ao=true)(hc:cOp P o.op=some ao)(hcc:∀c,ρ' (.const c)=c)(hρ:∀x∈o.op.operands,VR m (ρ x) (ρ' x))
  (hr:ao.run lim ρ h=some (mkv ρ ao h.length,h++[k])):MadeB P o ρ' m w k (mkv ρ ao):=by
 have hinj:∀ {k2:Blk} {x:Value},some (x,h++[k2])=some (mkv ρ ao h.length,h++[k])->k2=k:=by
  intro k2 x e;simp only[Option.some.injEq,Prod.mk.injEq,List.append_cancel_left_eq,List.cons.injEq,and_true] at e;exact e.2
 cases hop:o.op with
 | box t x=>rw[hop] at hc; cases hc; obtain rfl:=hinj hr; exact mk_box hop hρ
 | alloc t =>
  rw[hop] at hc;simp only[cOp,Option.map_eq_some_iff] at hc;obtain⟨z,hz,rfl⟩:=hc;obtain rfl:=hinj hr;exact mk_zero hop hz
 | buildSlice t len ps =>
  rw[hop] at hc;simp only[cOp] at hc;split at hc
  ·rename_i e ht;split at hc
   ·rename_i s z hs hz;split at hc
    ·rename_i hle;cases hc;simp only[AOp.run,Option.map_eq_some_iff] at hr;obtain⟨cs,hf,e2⟩:=hr;obtain rfl:=hinj (congrArg some e2);exact mk_bsl hop ht hs hz hle hρ hf
    ·cases hc
   ·cases hc
  ·cases hc
 | convert s d x =>
  rw[hop] at hc;simp only[cOp] at hc;rcases cConv_inv hc with⟨k,k',rfl,e1,e2⟩ | ⟨k',rfl,e1,e2⟩ | ⟨rfl,e1,e2⟩ | ⟨e,rfl,e1,e2,e3,e4⟩ | ⟨e,rfl,e1,e2,e3,e4⟩<;>simp only[makes,Bool.false_eq_true] at hm
  simp only[AOp.run] at hr;split at hr
  ·rename_i b eb;obtain rfl:=hinj hr;have:=mk_s2b (w:=w) (m:=m) hop e1 e2 e3 hρ eb;have e5:mkv ρ (.s2b x)=fun i=>Value.slice (some ⟨i,0,none⟩) b.size 1:=by funext i; simp[mkv,eb]
   rw[e5]; exact this
  ·cases hr
 | makeSlice t x y =>
  rw[hop] at hc;simp only[cOp] at hc;split at hc
  ·rename_i e ht;split at hc
   ·rename_i s b z hs hb hz;cases hc;simp only[AOp.run] at hr;split at hr
    ·rename_i xx yy ex ey;split at hr
     ·rename_i hcc;obtain rfl:=hinj hr;have:=mk_mkS (w:=w) (m:=m) hop ht hs hb hz hρ ex ey hcc;have e5:mkv ρ (.mkS (s+1) b z x y)=fun i=>Value.slice (some ⟨i,0,none⟩) xx.toNat (s+1):=by funext i; simp[mkv,ex]
      rw[e5]; exact this
     ·cases hr
    ·cases hr
   ·cases hc
  ·cases hc
 | makeMap t r =>
  rw[hop] at hc;simp only[cOp] at hc;split at hc
  ·rename_i ht; cases hc; obtain rfl:=hinj hr; exact mk_mkM hop ⟨_,_,ht⟩ (Or.inl rfl) hcc
  ·rename_i ht; cases hc; obtain rfl:=hinj hr; exact mk_mkM hop ⟨_,_,ht⟩ (Or.inr ⟨_,_,rfl⟩) hcc
  ·cases hc
 | binOp op t x y yt =>
  rw[hop] at hc;simp only[cOp] at hc;rcases cBin_inv hc with rfl | ⟨_,_,_,_,_,rfl⟩ | ⟨_,_,_,rfl⟩<;>simp[makes] at hm
 | call c =>
  rw[hop] at hc;simp only[cOp] at hc;split at hc
  ·cases hc; simp[makes] at hm
  ·unfold cBuiltin at hc
   repeat' split at hc
   all_goals first
    | (cases hc; done)
    | (cases hc; simp[makes] at hm)
  ·cases hc
 | slice t x lo hi mx =>
  rw[hop] at hc;cases mx with
  | some mx=>simp[cOp] at hc
  | none =>
   simp only[cOp] at hc
   repeat' split at hc
   all_goals first
    | (cases hc; done)
    | (cases hc; simp[makes] at hm)
 | next x b =>
  exfalso;rw[hop] at hc;cases b<;>cases hc;simp[makes] at hm
 | _ =>
  exfalso;rw[hop] at hc
  try simp only[cOp] at hc
  repeat' split at hc
  all_goals first
   | (cases hc; done)
   | (cases hc; simp[makes] at hm; done)
   | (simp only[Option.map_eq_some_iff] at hc; obtain⟨_,_,rfl⟩:=hc; simp[makes] at hm)
theorem pure_run {ao:AOp}{ρ:Operand->Value}(h1:acts ao=false)(h2:makes ao=false)(hr:ao.run lim ρ h=some (v,h')):h'=h/\(reads ao=false->∀h3,ao.run lim ρ h3=some (v,h3))/\∀k,ao.run lim ρ (h++[k])=some (v,h++[k]):=by
 have get:∀ {b:Nat} {x k:Blk},h[b]?=some x->(h++[k])[b]?=some x:=by
  intro b x k e;rw[List.getElem?_append_left (List.getElem?_eq_some_iff.1 e).1]; exact e
 have rc:∀ {b o:Nat} {x:Value} {k:Blk},rdC h b o=some x->rdC (h++[k]) b o=some x:=by
  intro b o x k e;unfold rdC at e ⊢;split at e
  ·rename_i own cs hb; rw[get hb]; exact e
  ·cases e
 have rn:∀ {b o n:Nat} {x:List Value} {k:Blk},rdN h b o n=some x->rdN (h++[k]) b o n=some x:=by
  intro b o n x k e;unfold rdN at e ⊢;split at e
  ·rename_i own cs hb; rw[get hb]; exact e
  ·cases e
 cases ao<;>simp only[acts,makes,Bool.true_eq_false] at h1 h2
 case ld a =>
  simp only[AOp.run] at hr ⊢;split at hr
  ·simp only[Option.map_eq_some_iff,Prod.mk.injEq] at hr;obtain⟨x,hx,rfl,rfl⟩:=hr;exact⟨rfl,fun hh=>by simp[reads] at hh,fun k=>by simp[rc hx]⟩
  ·cases hr
 case ldn nn a =>
  simp only[AOp.run] at hr ⊢;split at hr
  ·simp only[Option.map_eq_some_iff,Prod.mk.injEq] at hr;obtain⟨x,hx,rfl,rfl⟩:=hr;exact⟨rfl,fun hh=>by simp[reads] at hh,fun k=>by simp[rn hx]⟩
  ·cases hr
 case b2s x =>
  simp only[AOp.run] at hr ⊢;split at hr
  ·cases hr; exact⟨rfl,fun hh=>by simp[reads] at hh,fun k=>rfl⟩
  ·simp only[Option.map_eq_some_iff,Option.bind_eq_some_iff,Prod.mk.injEq] at hr;obtain⟨bs,⟨cs,hcs,hbs⟩,rfl,rfl⟩:=hr;exact⟨rfl,fun hh=>by simp[reads] at hh,fun k=>by simp[rn hcs,hbs]⟩
  ·cases hr
 case mget s z g ok x k =>
  simp only[AOp.run] at hr ⊢;split at hr
  ·rename_i es hes
   have hmo:∀kk,mapOf (h++[kk]) (ρ x)=some es:=by
    intro kk;unfold mapOf at hes ⊢;split at hes
    ·exact hes
    ·split at hes
     ·rename_i hb; rw[get hb]; exact hes
     ·cases hes
    ·cases hes
   split at hr
   ·rename_i hm; cases hr; exact⟨rfl,fun hh=>by simp[reads] at hh,fun kk=>by simp[hmo,hm]⟩
   ·rename_i hm; cases hr; exact⟨rfl,fun hh=>by simp[reads] at hh,fun kk=>by simp[hmo,hm]⟩
   ·cases hr
  ·cases hr
 case lnM x =>
  simp only[AOp.run] at hr ⊢;split at hr
  ·cases hr; exact⟨rfl,fun hh=>by simp[reads] at hh,fun k=>rfl⟩
  ·split at hr
   ·rename_i hb; cases hr; exact⟨rfl,fun hh=>by simp[reads] at hh,fun k=>by simp[get hb]⟩
   ·cases hr
  ·cases hr
 case cutA len es x lo hi =>
  simp only[AOp.run] at hr ⊢;split at hr
  ·split at hr
   ·rename_i hb;split at hr
    ·rename_i hfit;simp only[Option.map_eq_some_iff,Prod.mk.injEq] at hr;obtain⟨⟨l,r⟩,hbd,rfl,rfl⟩:=hr;exact⟨rfl,fun hh=>by simp[reads] at hh,fun k=>by simp[get hb,hfit,hbd]⟩
    ·cases hr
   ·cases hr
  ·cases hr
 all_goals
  simp only[AOp.run] at hr ⊢
  repeat' split at hr
  all_goals first
   | (cases hr; done)
   | (cases hr; exact⟨rfl,fun _ _=>by simp[*],fun _=>by simp[*]⟩)
   | (simp only[Option.map_eq_some_iff,Prod.mk.injEq] at hr
      obtain⟨x,hx,rfl,rfl⟩:=hr;exact⟨rfl,fun _ _=>by simp[*],fun _=>by simp[*]⟩)
end
section
variable [Start]
variable {P:Program}{lim n:Nat}{m:Mp}{h h':Hp}{w:World}{ops:Array Oper}
theorem sure1_eq {x y:Value}(e:sure1 x y=true):x=y:=by
 unfold sure1 at e;split at e<;>try simp only[beq_iff_eq,Bool.and_eq_true,Bool.false_eq_true] at e
 ·rw[e]
 ·rw[e.1,e.2]
 ·rename_i a b
  have:a=b:=by
   cases a; cases b;have e2:(_==_)=true:=e
   first
    | (congr; exact eq_of_beq e2)
    | simpa using e
  rw[this]
 ·rw[e]
 ·rw[e.1.1,e.1.2,e.2]
 ·rw[e]
 ·rfl
 ·rfl
 ·rename_i f a b g c d;obtain⟨⟨⟨⟨e0,e1⟩,e2⟩,e3⟩,e4⟩:=e;rw[Array.size_eq_zero_iff] at e1 e2 e3 e4;rw[e0,e1,e2,e3,e4]
theorem sureL_eq:∀ {xs ys:List Value},sureL xs ys=true->xs=ys:=by
 intro xs
 induction xs with
 | nil=>intro ys e; cases ys with
  | nil=>rfl
  | cons y ys=>simp[sureL] at e
 | cons x xs ih=>intro ys e; cases ys with
  | nil=>simp[sureL] at e
  | cons y ys =>
   simp only[sureL,Bool.and_eq_true] at e;rw[sure1_eq e.1,ih e.2]
theorem sure_eq {x y:Value}(e:sure x y=true):x=y:=by
 unfold sure at e;split at e
 ·rw[Array.ext' (sureL_eq e)]
 ·exact sure1_eq e
theorem ahead_len:∀N,(aheadTo ops N).length=N:=by
 intro N
 induction N with
 | zero=>rfl
 | succ N ih=>simp[aheadTo,ih]
theorem ahead_sub {S:Nat->Prop}(hS:∀i,S i->∀e∈edgesOf ops i,S e):∀(N i:Nat),(∀e∈edgesOf ops i,S e)->∀j∈(aheadTo ops N).getD i [],S j:=by
 intro N
 induction N with
 | zero=>intro i _ j hj; simp[aheadTo] at hj
 | succ N ih =>
  intro i hi j hj;simp only[aheadTo] at hj;rcases Nat.lt_trichotomy i N with hlt | rfl | hgt
  ·rw[List.getD_eq_getElem?_getD,List.getElem?_append_left (by rw[ahead_len]; exact hlt),<- List.getD_eq_getElem?_getD] at hj;exact ih i hi j hj
  ·rw[List.getD_eq_getElem?_getD,List.getElem?_append_right (by rw[ahead_len]; exact Nat.le_refl _),ahead_len,Nat.sub_self] at hj;simp only[List.getElem?_cons_zero,Option.getD_some,List.mem_eraseDups,List.mem_flatMap,List.mem_cons] at hj;obtain⟨e,he,rfl | hj⟩:=hj
   ·exact hi _ he
   ·exact ih e (hS e (hi e he)) j hj
  ·rw[List.getD_eq_getElem?_getD,List.getElem?_eq_none (by simp[ahead_len]; omega)] at hj;simp at hj
theorem free_inv {A:List (List Nat)}{i:Nat}(hf:(frees P ops A).getD i false=true):i<ops.size/\(∃a,aopOf P ops i=some a/\acts a=false)/\∃d,dstOf ops i=some d/\d ∉ looks ops i /\
  ∀j,j<ops.size->j≠i->(d∈looks ops j->i∈A.getD j [])/\dstOf ops j≠some d:=by
 by_cases hi:i<ops.size
 ·have h1:(frees P ops A).getD i false=free P ops A i:=by simp[frees,List.getD_eq_getElem?_getD,hi]
  rw[h1] at hf;unfold free at hf;rw[Bool.and_eq_true] at hf;obtain⟨e1,e2⟩:=hf;refine⟨hi,?_,?_⟩
  ·split at e1
   ·rename_i a ha; exact⟨a,ha,by simpa using e1⟩
   ·cases e1
  ·split at e2
   ·rename_i d hd;simp only[Bool.and_eq_true,Bool.not_eq_true',List.all_eq_true,List.mem_range,Bool.or_eq_true,beq_iff_eq,bne_iff_ne,List.contains_iff_mem,ne_eq] at e2;refine⟨d,rfl.trans hd |>.trans rfl,?_,fun j hj hne=>?_⟩
    ·have:=e2.1; simpa using this
    ·rcases e2.2 j hj with h3 | ⟨h3,h4⟩
     ·exact absurd h3 hne
     ·refine⟨fun hd=>?_,h4⟩;rcases h3 with h3 | h3
      ·rw[<- List.contains_iff_mem] at hd; rw[hd] at h3; cases h3
      ·exact h3
   ·cases e2
 ·simp[frees,List.getD_eq_getElem?_getD,hi] at hf
theorem drawOk_inv {A:List (List Nat)}{F:List Bool}(hd:drawOk ops A F=true):(∀i,i<ops.size->∀e∈edgesOf ops i,e<i) /\
  ∀i,i<ops.size->F.getD i false=false->∀j,j<ops.size->j≠i->(F.getD j false=true\/i∈A.getD j []\/j∈A.getD i []) /\
   ∀d,dstOf ops i=some d->(d∈looks ops j->i∈A.getD j []\/j∈A.getD i [])/\dstOf ops j≠some d:=by
 unfold drawOk at hd;simp only[List.all_eq_true,List.mem_range,Bool.and_eq_true,decide_eq_true_eq,Bool.or_eq_true,beq_iff_eq] at hd;refine⟨fun i hi=>(hd i hi).1,fun i hi hF j hj hne=>?_⟩;have h1:=(hd i hi).2;rw[hF] at h1;rcases h1 with h1 | h1
 ·cases h1
 rcases h1 j hj with h2 | ⟨h2,h3⟩
 ·exact absurd h2 hne
 simp only[List.contains_iff_mem] at h2 h3;refine⟨h2.elim (fun h2=>h2.imp id Or.inl) (fun h2=>Or.inr (Or.inr h2)),fun d ed=>?_⟩;rw[ed] at h3;simp only[Bool.and_eq_true,Bool.or_eq_true,Bool.not_eq_true',List.contains_iff_mem,bne_iff_ne,ne_eq] at h3;refine⟨fun hl=>?_,h3.2⟩;rcases h3.1 with(h4 | h4) | h4
 ·rw[<- List.contains_iff_mem] at hl; rw[hl] at h4; cases h4
 ·exact Or.inl h4
 ·exact Or.inr h4
theorem filter_lt {p q:Nat->Bool}(hpq:∀x,q x=true->p x=true):∀(l:List Nat) (x:Nat),x∈l->p x=true->q x=false->(l.filter q).length<(l.filter p).length:=by
 have le:∀l:List Nat,(l.filter q).length<=(l.filter p).length:=by
  intro l
  induction l with
  | nil=>simp
  | cons y l ih =>
   simp only[List.filter_cons];cases hq:q y with
   | true=>simp[hpq y hq,ih]
   | false=>cases p y<;>simp<;>omega
 intro l
 induction l with
 | nil=>intro x hx; cases hx
 | cons y l ih =>
  intro x hx hp hq;rcases List.mem_cons.1 hx with rfl | hx
  ·simp only[List.filter_cons,hp,hq];have:=le l;simp; omega
  ·have:=ih x hx hp hq;simp only[List.filter_cons];cases hqy:q y with
   | true=>simp[hpq y hqy]; exact this
   | false=>cases p y<;>simp<;>omega
theorem looks_get {i:Nat}{o:Oper}(ho:ops[i]?=some o):looks ops i=o.looksAt ops:=by simp[looks,ho]
theorem dst_get {i:Nat}{o:Oper}(ho:ops[i]?=some o):dstOf ops i=o.dst:=by simp[dstOf,ho]
theorem edges_get {i:Nat}{o:Oper}(ho:ops[i]?=some o){e:Edge}(he:e∈o.after)(hb:Region.binds .any e=true):e.on∈edgesOf ops i:=by
 simp only[edgesOf,ho,List.mem_filterMap];exact⟨e,by simpa using he,by simp[hb]⟩
theorem edges_inv {i x:Nat}(hx:x∈edgesOf ops i):∃o,ops[i]?=some o/\∃e∈o.after,Region.binds .any e=true/\e.on=x:=by
 unfold edgesOf at hx;split at hx
 ·rename_i o ho;simp only[List.mem_filterMap] at hx;obtain⟨e,he,h1⟩:=hx;split at h1
  ·rename_i hb; cases h1; exact⟨o,ho,e,by simpa using he,hb,rfl⟩
  ·cases h1
 ·cases hx
end
section
variable [Start]
variable {P:Program}{lim n:Nat}{ops:Array Oper}{m m0:Mp}{h h' h0:Hp}{w w' w0:World}
theorem cOper_inv {o:Oper}{g:Option (Nat×Bool)}{ao:AOp}(hc:cOper P n ops o=some (g,ao)):cGuard ops o.guard=some g/\cOp P o.op=some ao/\(∀x∈o.op.operands,opdOk n x=true)/\dstOk n o.dst=true/\gOk n g=true:=by
 unfold cOper at hc;split at hc
 ·rename_i g' a' hg ha;split at hc
  ·rename_i hok;cases hc;simp only[Bool.and_eq_true] at hok;obtain⟨⟨h1,h2⟩,h3⟩:=hok;refine⟨hg,ha,fun x hx=>?_,h2,h3⟩;unfold opdsOk at h1;rw[List.all_eq_true] at h1;exact h1 x (by simpa using hx)
  ·cases hc
 ·cases hc
theorem push_hr (H:HR m h w)(k:Blk):HR m (h++[k]) w:=by
 refine⟨H.gl,fun b p e=>?_,fun b p k' e f=>?_,fun b b' p p' e e' f f' g ho=>?_,H.off⟩
 ·have:=H.dom b p e; exact⟨by simp; omega,this.2⟩
 ·rw[get_push (H.dom b p e).1] at f; exact H.blk b p k' e f
 ·rw[get_push (H.dom b p e).1] at f; rw[get_push (H.dom b' p' e').1] at f'; exact H.inj b b' p p' e e' f f' g ho
theorem push_step (H:HR m h w)(S:Step lim m0 h0 w0 m h w)(k:Blk):Step lim m0 h0 w0 m (h++[k]) w :=
 ⟨S.ext,S.new,by have:=S.len; simp; omega,fun b hb e=>by rw[get_push (Nat.lt_of_lt_of_le hb S.len)]; exact S.af b hb e,S.cf,S.size,S.os,S.tape,S.output,
  fun l hl hL b p k' hb e f=>by rw[get_push (H.dom b p e).1] at f; exact S.low l hl hL b p k' hb e f⟩
theorem late_step (H:HR m h w)(S:Step lim m0 h0 w0 m h w){b:Nat}{k:Blk}{p:Pl}(hb:h[b]?=some k)(hmb:m b=none)(hlb:h0.length<=b)(hll:lim<=h0.length)
  (hc:p.c=w.heap.size)(hs:w'.heap.size=w.heap.size+1)(hk:∀c,c<w.heap.size->w'.heap[c]?=w.heap[c]?)
  (h1:w'.os=w.os)(h2:w'.tape=w.tape)(h3:w'.output=w.output)(hB:BR m w' p k)(hz:p.own=true->p.base=0):Sub m (ins m b p)/\HR (ins m b p) h w'/\Step lim m0 h0 w0 (ins m b p) h w':=by
 have hsub:Sub m (ins m b p):=by
  intro b' q e;unfold ins;split
  ·rename_i e2; subst e2; rw[hmb] at e; cases e
  ·exact e
 have hblt:b<h.length:=(List.getElem?_eq_some_iff.1 hb).1;have hS:=S.size;refine⟨hsub,⟨H.gl.of (by omega) (fun c hc' _=>hk c hc') fun b' q e ho=>?_,fun b' q e=>?_,fun b' q k' e f=>?_,fun b1 b2 q1 q2 e1 e2 f1 f2 g ho=>?_,ins_off H hz⟩,⟨S.ext.trans hsub,fun b' q e e'=>?_,S.len,S.af,fun c hc' hn=>?_,by omega,h1.trans S.os,h2.trans S.tape,h3.trans S.output,fun l hl hL b' q k' hb' e f=>?_⟩⟩
 ·rcases ins_inv e with⟨rfl,rfl⟩ | ⟨_,e⟩
  ·exact Or.inl (by omega)
  ·exact Or.inr ⟨b',q,e,ho,rfl⟩
 ·rcases ins_inv e with⟨rfl,rfl⟩ | ⟨_,e⟩
  ·exact⟨hblt,by omega⟩
  ·have:=H.dom b' q e; exact⟨this.1,by omega⟩
 ·rcases ins_inv e with⟨rfl,rfl⟩ | ⟨_,e⟩
  ·rw[hb] at f; cases f; exact hB.mono hsub
  ·exact((H.blk b' q k' e f).mono hsub).same (hk _ (H.dom b' q e).2)
 ·rcases ins_inv e1 with⟨x1,x2⟩ | ⟨_,y1⟩
  ·rcases ins_inv e2 with⟨x3,x4⟩ | ⟨_,y2⟩
   ·rw[x1,x3]
   ·have:=(H.dom b2 q2 y2).2;rw[x2] at g;omega
  ·rcases ins_inv e2 with⟨x3,x4⟩ | ⟨_,y2⟩
   ·have:=(H.dom b1 q1 y1).2;rw[x4] at g;omega
   ·exact H.inj b1 b2 q1 q2 y1 y2 f1 f2 g ho
 ·rcases ins_inv e with⟨rfl,rfl⟩ | ⟨_,e⟩
  ·exact⟨hlb,Or.inl (by omega)⟩
  ·exact S.new b' q e e'
 ·exact(hk c (Nat.lt_of_lt_of_le hc' S.size)).trans (S.cf c hc' hn)
 ·rcases ins_inv e with⟨rfl,rfl⟩ | ⟨_,e⟩
  ·omega
  ·have hcut:cut l (ins m b p)=cut l m:=by
    funext x
    unfold cut ins;split
    ·rw[if_neg (by omega)]
    ·rfl
   rw[hcut];exact(S.low l hl hL b' q k' hb' e f).same (hk _ (H.dom b' q e).2)
def Late (P:Program)(n lim:Nat)(ops:Array Oper)(f:Fr)(h:Hp)(B:Nat->Option Nat)(i:Nat):Prop :=
 ∃o g ao d,ops[i]?=some o/\cOper P n ops o=some (g,ao)/\o.dst=some d /\
  (goes f g=false->f.rd d=undef) /\
  (goes f g=true->∃ρ:Operand->Value,(∀x∈o.op.operands,ρ x=f.ev x) /\
   ((B i=none/\makes ao=false/\ao.run lim ρ h=some (f.rd d,h)) \/
    ∃b k,B i=some b/\makes ao=true/\h[b]?=some k/\f.rd d=mkv ρ ao b/\∀hh,ao.run lim ρ hh=some (mkv ρ ao hh.length,hh++[k])))
theorem goes_eq {f f':Fr}{o:Oper}{g:Option (Nat×Bool)}(hg:cGuard ops o.guard=some g)(h1:∀t∈o.looksAt ops,f'.rd t=f.rd t):goes f' g=goes f g:=by
 cases g with
 | none=>rfl
 | some x =>
  obtain⟨t,wnt⟩:=x;simp only[goes];rw[h1 t (looks_guard hg rfl)]
theorem ev_eq {f f':Fr}{o:Oper}(h1:∀t∈o.looksAt ops,f'.rd t=f.rd t):∀x∈o.op.operands,f'.ev x=f.ev x:=by
 intro x hx;cases x with
 | tmp t=>exact h1 t (looks_opd hx)
 | const v=>rfl
 | global g=>rfl
 | func g=>rfl
theorem Late.keep {f f':Fr}{B B':Nat->Option Nat}{i:Nat}(L:Late P n lim ops f h B i)(hB:B' i=B i)
  (h1:∀t∈looks ops i,f'.rd t=f.rd t)(h2:∀d,dstOf ops i=some d->f'.rd d=f.rd d)(h3:∀b k,B i=some b->h[b]?=some k->h'[b]?=some k)
  (h4:∀o g ao d ρ,ops[i]?=some o->cOper P n ops o=some (g,ao)->o.dst=some d->goes f' g=true->makes ao=false->(∀x∈o.op.operands,ρ x=f'.ev x)->ao.run lim ρ h=some (f'.rd d,h) ->
   ∃ρ':Operand->Value,(∀x∈o.op.operands,ρ' x=f'.ev x)/\ao.run lim ρ' h'=some (f'.rd d,h')):Late P n lim ops f' h' B' i:=by
 obtain⟨o,g,ao,d,ho,hc,hd,l1,l2⟩:=L;rw[looks_get ho] at h1;rw[dst_get ho] at h2;have hg:=(cOper_inv hc).1;have eg:=goes_eq hg h1;have ed:=h2 d hd;have eo:=ev_eq h1;refine⟨o,g,ao,d,ho,hc,hd,fun e=>by rw[ed]; exact l1 (eg▸e),fun e=>?_⟩;obtain⟨ρ,r1,r2⟩:=l2 (eg▸e);have r1':∀x∈o.op.operands,ρ x=f'.ev x:=fun x hx=>by rw[eo x hx]; exact r1 x hx
 rcases r2 with⟨b1,b2,b3⟩ | ⟨b,k,b1,b2,b3,b4,b5⟩
 ·obtain⟨ρ',s1,s2⟩:=h4 o g ao d ρ ho hc hd e b2 r1' (by rw[ed]; exact b3);exact⟨ρ',s1,Or.inl ⟨hB.trans b1,b2,s2⟩⟩
 ·exact⟨ρ,r1',Or.inr ⟨b,k,hB.trans b1,b2,h3 b k b1 b3,by rw[ed]; exact b4,b5⟩⟩
structure DI (P:Program)(n lim:Nat)(ops:Array Oper)(F:List Bool)(m0:Mp)(h0:Hp)(w0:World)(a0:Act)(done:List Nat)(listed:Array Bool)(B:Nat->Option Nat)(f:Fr)(h:Hp)(m:Mp)(a:Act)(w:World):Prop where
 lsz:listed.size=ops.size
 sub:∀i,listed.getD i false=true->i∈done
 lt:∀i∈done,i<ops.size
 cls:∀i,listed.getD i false=true->∀e∈edgesOf ops i,listed.getD e false=true
 cld:∀i∈done,∀e∈edgesOf ops i,e∈done
 fre:∀i∈done,listed.getD i false=false->F.getD i false=true
 late:∀i∈done,listed.getD i false=false->Late P n lim ops f h B i
 bl:∀i b,B i=some b->b<h.length/\m b=none/\h0.length<=b
 dis:∀i j b,B i=some b->B j=some b->i=j
 fr:FR m n (fun t=>∃i∈done,listed.getD i false=false/\dstOf ops i=some t) f a.tmps
 hr:HR m h w
 st:Step lim m0 h0 w0 m h w
 df:a.defers=a0.defers
variable {a a0:Act}{done:List Nat}{listed:Array Bool}{B:Nat->Option Nat}{f f':Fr}
theorem DI.free {i:Nat}{o:Oper}{g:Option (Nat×Bool)}{ao:AOp}{call:CallT}(D:DI P n lim ops (frees P ops (aheadTo ops ops.size)) m0 h0 w0 a0 done listed B f h m a w)(hf:(frees P ops (aheadTo ops ops.size)).getD i false=true)(hnd:i ∉ done)(he:∀e∈edgesOf ops i,e∈done)
  (ho:ops[i]?=some o)(hc:cOper P n ops o=some (g,ao))(hr:(AI.op o.dst g ao).run call lim f h=some (f',h')) :
  ∃B',DI P n lim ops (frees P ops (aheadTo ops ops.size)) m0 h0 w0 a0 (i::done) listed B' f' h' m a w:=by
 obtain⟨hi,⟨ao',ha',hact⟩,d,hd,hdl,hall⟩:=free_inv hf
 have hao:ao'=ao:=by
  have:=(cOper_inv hc).2.1;simp only[aopOf,ho,Option.bind_some] at ha';rw[this] at ha'; exact(Option.some.inj ha').symm
 subst hao;rw[dst_get ho] at hd
 have hli:listed.getD i false=false:=by
  cases e:listed.getD i false with
  | false=>rfl
  | true=>exact absurd (D.sub i e) hnd
 have hsep:∀j∈done,d ∉ looks ops j/\dstOf ops j≠some d:=by
  intro j hj;have hne:j≠i:=fun e=>hnd (e▸hj);refine⟨fun hl=>hnd ?_,(hall j (D.lt j hj) hne).2⟩;exact ahead_sub (S:=fun x=>x∈done) D.cld _ _ (D.cld j hj) _ ((hall j (D.lt j hj) hne).1 hl)
 have hcall:∀fv args,ao'≠.call fv args:=by rintro fv args rfl; simp[acts] at hact
 have key:∃v,f'=f.st d v/\((goes f g=false/\v=undef/\h'=h)\/(goes f g=true/\makes ao'=false/\h'=h/\ao'.run lim f.ev h=some (v,h)) \/
   (goes f g=true/\makes ao'=true/\∃k,h'=h++[k]/\v=mkv f.ev ao' h.length/\∀hh,ao'.run lim f.ev hh=some (mkv f.ev ao' hh.length,hh++[k]))):=by
  simp only[AI.run,hd] at hr;split at hr
  ·rename_i hg;simp only[Option.map_eq_some_iff,Prod.mk.injEq] at hr;obtain⟨⟨v,h2⟩,hrun,rfl,rfl⟩:=hr;have hrun:=go_run hcall hrun;refine⟨v,rfl,Or.inr ?_⟩;cases hm:makes ao' with
   | false =>
    obtain⟨rfl,-,-⟩:=pure_run hact hm hrun;exact Or.inl ⟨hg,rfl,rfl,hrun⟩
   | true =>
    obtain⟨k,e1,e2,e3⟩:=make_run hm hrun;exact Or.inr ⟨hg,rfl,k,e2,e1,e3⟩
  ·rename_i hg;cases hr;exact⟨undef,rfl,Or.inl ⟨by simpa using hg,rfl,rfl⟩⟩
 obtain⟨v,rfl,hk⟩:=key;rw[looks_get ho] at hdl;have hsame:∀t,t≠d->(f.st d v).rd t=f.rd t:=fun t ht=>by rw[rd_st1,if_neg ht]
 have hown:∀t∈o.looksAt ops,(f.st d v).rd t=f.rd t:=fun t ht=>hsame t (fun e=>hdl (e▸ht));have hgo:=goes_eq (cOper_inv hc).1 hown;have hev:=ev_eq hown
 have hpush:∀b k,b<h.length->h[b]?=some k->h'[b]?=some k:=by
  intro b k hb e;rcases hk with⟨_,_,rfl⟩ | ⟨_,_,rfl,_⟩ | ⟨_,_,k',rfl,_⟩
  ·exact e
  ·exact e
  ·rw[get_push hb]; exact e
 have hlen:h.length<=h'.length:=by rcases hk with⟨_,_,rfl⟩ | ⟨_,_,rfl,_⟩ | ⟨_,_,k',rfl,_⟩<;>simp
 have hHR:HR m h' w:=by
  rcases hk with⟨_,_,rfl⟩ | ⟨_,_,rfl,_⟩ | ⟨_,_,k',rfl,_⟩
  ·exact D.hr
  ·exact D.hr
  ·exact push_hr D.hr k'
 have hST:Step lim m0 h0 w0 m h' w:=by
  rcases hk with⟨_,_,rfl⟩ | ⟨_,_,rfl,_⟩ | ⟨_,_,k',rfl,_⟩
  ·exact D.st
  ·exact D.st
  ·exact push_step D.hr D.st k'
 refine⟨fun j=>if j=i then(if goes f g&&makes ao' then some h.length else none) else B j,D.lsz,fun j e=>List.mem_cons_of_mem _ (D.sub j e),?_,D.cls,?_,?_,?_,?_,?_,?_,hHR,hST,D.df⟩
 ·intro j hj;rcases List.mem_cons.1 hj with rfl | hj
  ·exact hi
  ·exact D.lt j hj
 ·intro j hj e hje;rcases List.mem_cons.1 hj with rfl | hj
  ·exact List.mem_cons_of_mem _ (he e hje)
  ·exact List.mem_cons_of_mem _ (D.cld j hj e hje)
 ·intro j hj hl;rcases List.mem_cons.1 hj with rfl | hj
  ·exact hf
  ·exact D.fre j hj hl
 ·intro j hj hl;rcases List.mem_cons.1 hj with rfl | hj
  ·refine⟨o,g,ao',d,ho,hc,hd,fun e=>?_,fun e=>?_⟩
   ·rw[rd_st1,if_pos rfl];rcases hk with⟨_,rfl,_⟩ | ⟨e2,_⟩ | ⟨e2,_⟩
    ·rfl
    ·rw[hgo,e2] at e; cases e
    ·rw[hgo,e2] at e; cases e
   ·rw[hgo] at e;refine⟨f.ev,fun x hx=>(hev x hx).symm,?_⟩;rw[rd_st1,if_pos rfl];rcases hk with⟨e2,_⟩ | ⟨e2,e3,rfl,e4⟩ | ⟨e2,e3,k',rfl,rfl,e5⟩
    ·rw[e] at e2; cases e2
    ·exact Or.inl ⟨by simp[e3],e3,e4⟩
    ·exact Or.inr ⟨h.length,k',by simp[e2,e3],e3,get_new,rfl,e5⟩
  ·have hne:j≠i:=fun e=>hnd (e▸hj);refine(D.late j hj hl).keep (by simp[hne]) (fun t ht=>hsame t fun e=>(hsep j hj).1 (e▸ht)) (fun d' e'=>hsame d' fun e=>(hsep j hj).2 (e▸e')) (fun b k e1 e2=>hpush b k (D.bl j b e1).1 e2) fun o2 g2 ao2 d2 ρ q1 q2 q3 q4 q5 q6 q7=>?_;obtain⟨-,⟨ao3,ha3,hact3⟩,-⟩:=free_inv (D.fre j hj hl)
   have hao3:ao3=ao2:=by
    have:=(cOper_inv q2).2.1;simp only[aopOf,q1,Option.bind_some] at ha3;rw[this] at ha3; exact(Option.some.inj ha3).symm
   subst hao3;refine⟨ρ,q6,?_⟩;rcases hk with⟨_,_,rfl⟩ | ⟨_,_,rfl,_⟩ | ⟨_,_,k',rfl,_⟩
   ·exact q7
   ·exact q7
   ·exact(pure_run hact3 q5 q7).2.2 k'
 ·intro j b e;split at e
  ·split at e
   ·rename_i e1 e2;cases e;simp only[Bool.and_eq_true] at e2;rcases hk with⟨e3,_⟩ | ⟨_,e3,_⟩ | ⟨_,_,k',rfl,_⟩
    ·rw[e2.1] at e3; cases e3
    ·rw[e2.2] at e3; cases e3
    ·refine⟨by simp,?_,D.st.len⟩;cases e4:m h.length with
     | none=>rfl
     | some p=>have:=(D.hr.dom _ _ e4).1; omega
   ·cases e
  ·have:=D.bl j b e;exact⟨Nat.lt_of_lt_of_le this.1 hlen,this.2⟩
 ·intro j j' b e e';split at e
  ·split at e' 
   ·rename_i e1 e2; rw[e1,e2]
   ·split at e
    ·cases e; have:=(D.bl _ _ e').1; omega
    ·cases e
  ·split at e'
   ·split at e'
    ·cases e'; have:=(D.bl _ _ e).1; omega
    ·cases e'
   ·exact D.dis j j' b e e'
 ·refine⟨D.fr.size,fun t ht hx=>?_⟩;have htd:t≠d:=fun e=>hx ⟨i,List.mem_cons_self,hli,by rw[dst_get ho,hd,e]⟩;rw[hsame t htd];exact D.fr.get t ht fun⟨j,j1,j2,j3⟩=>hx ⟨j,List.mem_cons_of_mem _ j1,j2,j3⟩
end
section
variable [Start]
variable {P:Program}{lim n:Nat}{ops:Array Oper}{m m' m0:Mp}{h h' h0:Hp}{w w' w0:World}{a a0:Act}{done:List Nat}{listed:Array Bool}{B:Nat->Option Nat}{f f':Fr}
theorem getD_list {i:Nat}(hi:i<listed.size)(j:Nat):(listed.setIfInBounds i true).getD j false=if j=i then true else listed.getD j false:=by
 by_cases e:j=i
 ·subst e; simp[Array.getD_eq_getD_getElem?,hi]
 ·rw[if_neg e]; simp[Array.getD_eq_getD_getElem?,Array.getElem?_setIfInBounds_ne (Ne.symm e)]
theorem put_get {d:Nat}{v:Value}{t:Nat}(ht:t≠d):(a.put (some d) v).tmps.getD t undef=a.tmps.getD t undef:=by
 simp[Act.put,Array.getD_eq_getD_getElem?,Array.getElem?_setIfInBounds_ne (Ne.symm ht)]
theorem put_self {d:Nat}{v:Value}(hd:d<a.tmps.size):(a.put (some d) v).tmps.getD d undef=v:=by
 simp[Act.put,Array.getD_eq_getD_getElem?,hd]
theorem DI.onList {i d:Nat}{v':Value}{F:List Bool}(D:DI P n lim ops F m0 h0 w0 a0 done listed B f h m a w)(hdn:i∈done)(he:∀e∈edgesOf ops i,listed.getD e false=true)(hd:dstOf ops i=some d)(hdn':d<n)
  (hsub:Sub m m')(H:HR m' h w')(S:Step lim m0 h0 w0 m' h w')(hv:VR m' (f.rd d) v')(hb:∀j b,j≠i->B j=some b->m' b=none) :
  DI P n lim ops F m0 h0 w0 a0 done (listed.setIfInBounds i true) (fun j=>if j=i then none else B j) f h m' (a.put (some d) v') w':=by
 have hil:i<listed.size:=by rw[D.lsz]; exact D.lt i hdn
 have un:∀ {j},(listed.setIfInBounds i true).getD j false=false->j≠i/\listed.getD j false=false:=by
  intro j hj;rw[getD_list hil] at hj;split at hj
  ·cases hj
  ·rename_i e; exact⟨e,hj⟩
 have up:∀ {j},listed.getD j false=true->(listed.setIfInBounds i true).getD j false=true:=by
  intro j hj;rw[getD_list hil];split
  ·rfl
  ·exact hj
 refine⟨by simpa using D.lsz,fun j hj=>?_,D.lt,fun j hj e hje=>?_,D.cld,fun j hj hl=>D.fre j hj (un hl).2,fun j hj hl=>?_,fun j b e=>?_,fun j j' b e e'=>?_,?_,H,S,(put_defers _ _ _).trans D.df⟩
 ·rw[getD_list hil] at hj;split at hj
  ·rename_i e; exact e▸hdn
  ·exact D.sub j hj
 ·rw[getD_list hil] at hj;split at hj
  ·rename_i e2; subst e2; exact up (he e hje)
  ·exact up (D.cls j hj e hje)
 ·exact(D.late j hj (un hl).2).keep (by simp[(un hl).1]) (fun _ _=>rfl) (fun _ _=>rfl) (fun _ _ _ e=>e) fun o g ao d ρ _ _ _ _ _ q1 q2=>⟨ρ,q1,q2⟩
 ·split at e
  ·cases e
  ·rename_i hj; have:=D.bl j b e; exact⟨this.1,hb j b hj e,this.2.2⟩
 ·split at e
  ·cases e
  ·split at e'
   ·cases e'
   ·exact D.dis j j' b e e'
 ·refine⟨by simpa[Act.put] using D.fr.size,fun t ht hx=>?_⟩
  by_cases etd:t=d
  ·subst etd; rw[put_self (by rw[D.fr.size]; exact ht)]; exact hv
  ·rw[put_get etd];refine(D.fr.get t ht fun⟨j,j1,j2,j3⟩=>hx ⟨j,j1,?_,j3⟩).mono hsub;rw[getD_list hil,if_neg]
   ·exact j2
   ·rintro rfl; rw[hd] at j3; cases j3; exact etd rfl
theorem DI.list {i:Nat}(D:DI P n lim ops (frees P ops (aheadTo ops ops.size)) m0 h0 w0 a0 done listed B f h m a w)(hll:lim<=h0.length)(hdn:i∈done)(hl:listed.getD i false=false)(he:∀e∈edgesOf ops i,listed.getD e false=true)
  (r:Option Nat)(K:Act->World->Prop)(Q:Exit->Act->World->Prop)
  (hK:∀B' m' a' w',DI P n lim ops (frees P ops (aheadTo ops ops.size)) m0 h0 w0 a0 done (listed.setIfInBounds i true) B' f h m' a' w'->K a' w'):wpOpIn (FW r) 0 P ops Q i K a w:=by
 have hA:∀j∈(aheadTo ops ops.size).getD i [],listed.getD j false=true:=ahead_sub (S:=fun x=>listed.getD x false=true) D.cls _ _ he;obtain⟨hi,⟨ao',ha',hact⟩,d0,hd',hdl,-⟩:=free_inv (D.fre i hdn hl);obtain⟨o,g,ao,d,ho,hc,hd,l1,l2⟩:=D.late i hdn hl;obtain⟨hg,ha,hops,hdst,hgo⟩:=cOper_inv hc
 have hao:ao'=ao:=by
  simp only[aopOf,ho,Option.bind_some] at ha';rw[ha] at ha'; exact(Option.some.inj ha').symm
 subst hao;have hdd:dstOf ops i=some d:=(dst_get ho).trans hd;rw[hdd] at hd';obtain rfl:=Option.some.inj hd';rw[looks_get ho] at hdl;have hdn':d<n:=by rw[hd] at hdst; simpa[dstOk] using hdst
 have hX:∀t∈o.looksAt ops,¬ ∃j∈done,listed.getD j false=false/\dstOf ops j=some t:=by
  rintro t ht ⟨j,j1,j2,j3⟩
  by_cases e:i=j
  ·subst e; rw[hdd] at j3; cases j3; exact hdl ht
  ·obtain⟨-,-,d2,e1,-,e3⟩:=free_inv (D.fre j j1 j2);rw[j3] at e1; cases e1;have:=hA j ((e3 i hi e).1 (by rw[looks_get ho]; exact ht));rw[this] at j2; cases j2
 unfold wpOpIn;rw[ho];simp only;rw[goes_wanted hg hgo D.fr (fun t wnt e=>hX t (looks_guard hg e))];rw[hd]
 have hkeep:∀ {m' w'},Step lim m h w m' h w'->HR m' h w'->∀j b,j≠i->B j=some b->m' b=none:=by
  intro m' w' S H j b _ e;cases e2:m' b with
  | none=>rfl
  | some p =>
   have:=(S.new b p e2 (D.bl j b e).2.1).1;have:=(H.dom b p e2).1;omega
 have hnd:∀c,o.op≠.defer c:=by intro c e; rw[e] at ha; cases ha
 split
 ·rename_i hgoes;obtain⟨ρ,r1,r2⟩:=l2 hgoes
  have hρ:∀x∈o.op.operands,VR m (ρ x) (a.eval x):=fun x hx=>by
   rw[r1 x hx];exact D.fr.ev (hops x hx) (fun t e=>hX t (looks_opd (e▸hx)))
  refine⟨fun _ _=>trivial,?_⟩;rw[semAt_ok hnd];rcases r2 with⟨b1,b2,b3⟩ | ⟨b,k,b1,b2,b3,b4,b5⟩
  ·have hcall:∀fv args,ao'≠.call fv args:=by rintro fv args rfl; simp[acts] at hact
   obtain⟨nx,v',w',m',q1,q2,q3,q4,q5⟩:=op_sim (ρ':=a.eval) ha hcall (fun _=>rfl) (Nat.le_trans hll D.st.len) D.hr hρ b3;rw[q1];have key:=hK _ _ _ _ (D.onList hdn he hdd hdn' q5.ext q4 (D.st.trans q5) q3 (hkeep q5 q4));rcases q2 with rfl | ⟨rfl,rfl⟩
   ·simp only[Oper.uponIn,hd]; exact key
   ·simp only[Oper.uponIn,hd]; exact key
  ·obtain⟨v',w',p,q1,q2,q3,q4,q5,q6,q7,q8,q9⟩:=make_made (ρ':=a.eval) (w:=w) b2 ha (fun _=>rfl) hρ (b5 h);rw[q1];obtain⟨s1,s2,s3⟩:=late_step D.hr D.st b3 (D.bl i b b1).2.1 (D.bl i b b1).2.2 hll q2.1 q3 q4 q5 q6 q7 q8 (fun _=>q2.2)
   have key:=hK _ _ _ _ (D.onList hdn he hdd hdn' s1 s2 s3 (b4▸q9 b _ (by simp[ins])) (fun j b' hj e=>by
    unfold ins;rw[if_neg]
    ·exact(D.bl j b' e).2.1
    ·rintro rfl; exact hj (D.dis j i _ e b1)))
   simp only[Oper.uponIn,hd]; exact key
 ·rename_i hgoes;refine⟨fun _ _=>trivial,?_⟩;exact hK _ _ _ _ (D.onList hdn he hdd hdn' (Sub.refl m) D.hr D.st (by rw[l1 (by simpa using hgoes)]; exact .undef) fun j b _ e=>(D.bl j b e).2.1)
theorem put_rd {o:Option Nat}{v:Value}{t:Nat}(ht:o≠some t):(put f o v).rd t=f.rd t:=by
 cases o with
 | none=>rfl
 | some d=>exact(rd_st1 f d v t).trans (if_neg fun e=>ht (by rw[e]))
theorem run_put {call:CallT}{d:Option Nat}{g:Option (Nat×Bool)}{ao:AOp}(hr:(AI.op d g ao).run call lim f h=some (f',h')):∃v,f'=put f d v:=by
 simp only[AI.run] at hr;split at hr
 ·simp only[Option.map_eq_some_iff,Prod.mk.injEq] at hr;obtain⟨⟨v,h2⟩,-,rfl,-⟩:=hr;exact⟨v,rfl⟩
 ·cases hr; exact⟨_,rfl⟩
theorem DI.sync {i:Nat}{o:Oper}{g:Option (Nat×Bool)}{ao:AOp}{call:CallT}(hco:CallOk P call lim)(hdr:drawOk ops (aheadTo ops ops.size) (frees P ops (aheadTo ops ops.size))=true)
  (D:DI P n lim ops (frees P ops (aheadTo ops ops.size)) m0 h0 w0 a0 done listed B f h m a w)(hll:lim<=h0.length)(hi:i<ops.size)(hF:(frees P ops (aheadTo ops ops.size)).getD i false=false)
  (hnd:i ∉ done)(he:∀e∈edgesOf ops i,listed.getD e false=true)(ho:ops[i]?=some o)(hc:cOper P n ops o=some (g,ao))(hr:(AI.op o.dst g ao).run call lim f h=some (f',h'))
  (hch:∀j∈done,(frees P ops (aheadTo ops ops.size)).getD j false=true->j ∉ (aheadTo ops ops.size).getD i []->∀o g ao d,ops[j]?=some o->cOper P n ops o=some (g,ao)->o.dst=some d->reads ao=true->goes f' g=true ->
   ∃h2,ao.run lim f'.ev h'=some (f'.rd d,h2))
  (r:Option Nat)(K:Act->World->Prop)(Q:Exit->Act->World->Prop)
  (hK:∀m' a' w',DI P n lim ops (frees P ops (aheadTo ops ops.size)) m0 h0 w0 a0 (i::done) (listed.setIfInBounds i true) B f' h' m' a' w'->K a' w'):wpOpIn (FW r) 0 P ops Q i K a w:=by
 have hA:∀j∈(aheadTo ops ops.size).getD i [],listed.getD j false=true:=ahead_sub (S:=fun x=>listed.getD x false=true) D.cls _ _ he;have hil:i<listed.size:=by rw[D.lsz]; exact hi
 have hX:∀t∈o.looksAt ops,¬ ∃j∈done,listed.getD j false=false/\dstOf ops j=some t:=by
  rintro t ht ⟨j,j1,j2,j3⟩;have e:i≠j:=fun e=>hnd (e▸j1);obtain⟨-,-,d2,e1,-,e3⟩:=free_inv (D.fre j j1 j2);rw[j3] at e1; cases e1;have:=hA j ((e3 i hi e).1 (by rw[looks_get ho]; exact ht));rw[this] at j2; cases j2
 unfold wpOpIn;rw[ho];simp only;refine op_wp hc hco hr (Nat.le_trans hll D.st.len) D.fr hX D.hr r K Q fun m' a' w' F' hdf H' S=>hK m' a' w' ?_;obtain⟨v,rfl⟩:=run_put hr
 have un:∀ {j},j∈i::done->(listed.setIfInBounds i true).getD j false=false->j≠i/\j∈done/\listed.getD j false=false:=by
  intro j hm hj;rw[getD_list hil] at hj;split at hj
  ·cases hj
  ·rename_i e; exact⟨e,(List.mem_cons.1 hm).resolve_left e,hj⟩
 have up:∀ {j},listed.getD j false=true->(listed.setIfInBounds i true).getD j false=true:=by
  intro j hj;rw[getD_list hil];split
  ·rfl
  ·exact hj
 refine⟨by simpa using D.lsz,fun j hj=>?_,fun j hj=>?_,fun j hj e hje=>?_,fun j hj e hje=>?_,fun j hj hl=>D.fre j (un hj hl).2.1 (un hj hl).2.2,fun j hj hl=>?_,fun j b e=>?_,D.dis,?_,H',D.st.trans S,hdf.trans D.df⟩
 ·rw[getD_list hil] at hj;split at hj
  ·rename_i e; exact e▸List.mem_cons_self
  ·exact List.mem_cons_of_mem _ (D.sub j hj)
 ·rcases List.mem_cons.1 hj with rfl | hj
  ·exact hi
  ·exact D.lt j hj
 ·rw[getD_list hil] at hj;split at hj
  ·rename_i e2; subst e2; exact up (he e hje)
  ·exact up (D.cls j hj e hje)
 ·rcases List.mem_cons.1 hj with rfl | hj
  ·exact List.mem_cons_of_mem _ (D.sub e (he e hje))
  ·exact List.mem_cons_of_mem _ (D.cld j hj e hje)
 ·obtain⟨hne,hjd,hjl⟩:=un hj hl;have hnA:j ∉ (aheadTo ops ops.size).getD i []:=fun e=>by have:=hA j e; rw[this] at hjl; cases hjl
  have hnA':i ∉ (aheadTo ops ops.size).getD j []:=fun e=>hnd (ahead_sub (S:=fun x=>x∈done) D.cld _ _ (D.cld j hjd) _ e);have hsep:=((drawOk_inv hdr).2 i hi hF j (D.lt j hjd) hne).2;refine(D.late j hjd hjl).keep rfl (fun t ht=>put_rd fun e=>?_) (fun d' e'=>put_rd fun e=>?_) (fun b k e1 e2=>?_) fun o2 g2 ao2 d2 ρ q1 q2 q3 q4 q5 q6 q7=>?_
  ·rw[<- dst_get ho] at e;rcases(hsep t e).1 ht with h1 | h1
   ·exact hnA' h1
   ·exact hnA h1
  ·rw[<- dst_get ho] at e;exact(hsep d' e).2 e'
  ·rw[S.af b (D.bl j b e1).1 (D.bl j b e1).2.1]; exact e2
  ·obtain⟨-,⟨ao3,ha3,hact3⟩,-⟩:=free_inv (D.fre j hjd hjl)
   have hao3:ao3=ao2:=by
    have:=(cOper_inv q2).2.1;simp only[aopOf,q1,Option.bind_some] at ha3;rw[this] at ha3; exact(Option.some.inj ha3).symm
   subst hao3;cases hrd:reads ao3 with
   | false=>exact⟨ρ,q6,(pure_run hact3 q5 q7).2.1 hrd h'⟩
   | true =>
    obtain⟨h2,e2⟩:=hch j hjd (D.fre j hjd hjl) hnA o2 g2 ao3 d2 q1 q2 q3 hrd q4;have e3:=(pure_run hact3 q5 e2).1;exact⟨_,fun _ _=>rfl,e3▸e2⟩
 ·have:=D.bl j b e;refine⟨Nat.lt_of_lt_of_le this.1 S.len,?_,this.2.2⟩;cases e2:m' b with
  | none=>rfl
  | some p=>have h2:=(S.new b p e2 this.2.1).1; omega
 ·refine⟨F'.size,fun t ht hx=>F'.get t ht fun⟨j,j1,j2,j3⟩=>hx ⟨j,List.mem_cons_of_mem _ j1,?_,j3⟩⟩;rw[getD_list hil,if_neg]
  ·exact j2
  ·rintro rfl; exact hnd j1
end
section
variable [Start]
variable {P:Program}{lim n:Nat}{ops:Array Oper}{m m' m0:Mp}{h h' h0:Hp}{w w' w0:World}{a a0:Act}{f f':Fr}
theorem pick_some {F:List Bool}{want:Bool}{done:List Nat}{i:Nat}(hp:pick1 ops F want done=some i):i<ops.size/\F.getD i false=want/\i ∉ done/\∀e∈edgesOf ops i,e∈done:=by
 unfold pick1 at hp;have h1:=List.find?_some hp;have h2:=List.mem_of_find?_eq_some hp;rw[List.mem_range] at h2;simp only[readyB,Bool.and_eq_true,beq_iff_eq,Bool.not_eq_true',List.all_eq_true] at h1;refine⟨h2,h1.1,fun e=>?_,fun e he=>List.contains_iff_mem.1 (h1.2.2 e he)⟩;rw[List.contains_iff_mem.2 e] at h1;cases h1.2.1
theorem pick_none {F:List Bool}{want:Bool}{done:List Nat}(hp:pick1 ops F want done=none){i:Nat}(hi:i<ops.size)(hF:F.getD i false=want)(he:∀e∈edgesOf ops i,e∈done):i∈done:=by
 unfold pick1 at hp;have h1:=List.find?_eq_none.1 hp i (List.mem_range.2 hi);simp only[readyB,Bool.and_eq_true,beq_iff_eq,Bool.not_eq_true',List.all_eq_true,not_and] at h1;apply Classical.byContradiction;intro hn;refine h1 hF ?_ fun e hh=>List.contains_iff_mem.2 (he e hh);cases e:done.contains i with
 | false=>rfl
 | true=>exact absurd (List.contains_iff_mem.1 e) hn
theorem chks_run {call:CallT}{A:List (List Nat)}{F:List Bool}{s:Nat}{r:Fr×Hp}{l:List AI}:∀(done:List Nat) (c:List AI),chks P n ops A F s done=some c->runL call lim (c++l) f h=some r ->
  runL call lim l f h=some r/\∀j∈done,F.getD j false=true->j ∉ A.getD s []->∀o g ao d,ops[j]?=some o->cOper P n ops o=some (g,ao)->o.dst=some d->reads ao=true->goes f g=true ->
   ∃h2,ao.run lim f.ev h=some (f.rd d,h2):=by
 intro done
 induction done with
 | nil=>intro c hc hr; cases hc; exact⟨hr,fun j hj=>absurd hj (by simp)⟩
 | cons i done ih =>
  intro c hc hr;unfold chks at hc;split at hc
  ·rename_i t ht
   obtain⟨q,hc,hq⟩:∃q:Bool,(if(F.getD i false&&!(A.getD s []).contains i&&q)=true then(chkAt P n ops i).map (·::t) else some t)=some c/\∀ao,aopOf P ops i=some ao->reads ao=q:=by
    cases ha:aopOf P ops i with
    | none=>rw[ha] at hc; exact⟨true,hc,fun _ e=>by cases e⟩
    | some a=>rw[ha] at hc; exact⟨reads a,hc,fun _ e=>by cases e; rfl⟩
   split at hc
   ·rename_i hcond;simp only[Option.map_eq_some_iff] at hc;obtain⟨x,hx,rfl⟩:=hc;unfold chkAt at hx;split at hx
    ·rename_i o ho;split at hx
     ·rename_i g ao d hcc hd;cases hx;simp only[List.cons_append,runL,AI.run] at hr
      by_cases hg:goes f g=true
      ·rw[if_pos hg] at hr;split at hr
       ·rename_i f1 h1 hq;split at hq
        ·rename_i v h2 hrun;split at hq
         ·rename_i hsure;cases hq;obtain⟨k1,k2⟩:=ih t ht hr;refine⟨k1,fun j hj=>?_⟩;rcases List.mem_cons.1 hj with rfl | hj
          ·intro _ _ o' g' ao' d' e1 e2 e3 e4 e5;rw[ho] at e1; cases e1;rw[hcc] at e2; cases e2;rw[hd] at e3; cases e3;exact⟨h2,by rw[sure_eq hsure]; exact hrun⟩
          ·exact k2 j hj
         ·cases hq
        ·cases hq
       ·cases hr
      ·rw[if_neg hg] at hr;obtain⟨k1,k2⟩:=ih t ht hr;refine⟨k1,fun j hj=>?_⟩;rcases List.mem_cons.1 hj with rfl | hj
       ·intro _ _ o' g' ao' d' e1 e2 e3 e4 e5;rw[ho] at e1; cases e1;rw[hcc] at e2; cases e2;exact absurd e5 hg
       ·exact k2 j hj
     ·cases hx
    ·cases hx
   ·rename_i hcond;cases hc;obtain⟨k1,k2⟩:=ih _ ht hr;refine⟨k1,fun j hj=>?_⟩;rcases List.mem_cons.1 hj with rfl | hj
    ·intro hF hA o' g' ao' d' e1 e2 e3 e4 e5;exfalso;apply hcond
     have e6:aopOf P ops j=some ao':=by
      simp only[aopOf,e1,Option.bind_some]; exact(cOper_inv e2).2.1
     have e7:(A.getD s []).contains j=false:=by
      cases e:(A.getD s []).contains j with
      | false=>rfl
      | true=>exact absurd (List.contains_iff_mem.1 e) hA
     have e8:q=true:=by rw[<- hq _ e6]; exact e4
     rw[hF,e7,e8];rfl
    ·exact k2 j hj
  ·cases hc
def left (ops:Array Oper)(done:List Nat):Nat:=((List.range ops.size).filter fun i=>!done.contains i).length
def unl (ops:Array Oper)(listed:Array Bool):Nat:=((List.range ops.size).filter fun i=>!listed.getD i false).length
theorem left_cons {done:List Nat}{i:Nat}(hi:i<ops.size)(hn:i ∉ done):left ops (i::done)<left ops done:=by
 refine filter_lt (fun x hx=>?_) _ i (List.mem_range.2 hi) ?_ ?_
 ·simp only[Bool.not_eq_true',List.contains_cons,Bool.or_eq_false_iff] at hx ⊢; exact hx.2
 ·simpa using hn
 ·simp
theorem unl_set {listed:Array Bool}{i:Nat}(hs:listed.size=ops.size)(hi:i<ops.size)(hn:listed.getD i false=false):unl ops (listed.setIfInBounds i true)<unl ops listed:=by
 have hil:i<listed.size:=by rw[hs]; exact hi
 refine filter_lt (fun x hx=>?_) _ i (List.mem_range.2 hi) ?_ ?_
 ·rw[getD_list hil] at hx;split at hx
  ·cases hx
  ·exact hx
 ·rw[hn]; rfl
 ·rw[getD_list hil,if_pos rfl]; rfl
theorem left_zero {done:List Nat}(hz:left ops done=0){i:Nat}(hi:i<ops.size):i∈done:=by
 unfold left at hz;rw[List.length_eq_zero_iff] at hz;apply Classical.byContradiction;intro hn;have:i∈(List.range ops.size).filter fun i=>!done.contains i:=List.mem_filter.2 ⟨List.mem_range.2 hi,by simpa using hn⟩;rw[hz] at this; cases this
theorem unl_zero {listed:Array Bool}(hz:unl ops listed=0){i:Nat}(hi:i<ops.size):listed.getD i false=true:=by
 unfold unl at hz;rw[List.length_eq_zero_iff] at hz;cases e:listed.getD i false with
 | true=>rfl
 | false =>
  have:i∈(List.range ops.size).filter fun i=>!listed.getD i false:=List.mem_filter.2 ⟨List.mem_range.2 hi,by rw[e]; rfl⟩;rw[hz] at this; cases this
theorem ready_iff {listed:Array Bool}(hs:listed.size=ops.size){i:Nat}:i∈Region.ready .any ops listed<->i<ops.size/\listed.getD i false=false/\∀e∈edgesOf ops i,listed.getD e false=true:=by
 rw[mem_ready];constructor
 ·rintro⟨h1,o,ho,h2⟩;have hi:i<ops.size:=(Array.getElem?_eq_some_iff.1 ho).1;refine⟨hi,?_,fun e he=>?_⟩
  ·have hil:i<listed.size:=hs▸hi;simpa[Array.getD_eq_getD_getElem?,hil] using h1
  ·obtain⟨o',ho',ed,hed,hb,rfl⟩:=edges_inv he;rw[ho] at ho'; cases ho';exact h2 ed hed hb
 ·rintro⟨hi,h1,h2⟩;have hil:i<listed.size:=hs▸hi;refine⟨by simpa[Array.getD_eq_getD_getElem?,hil] using h1,ops[i],by simp[hi],fun e he hb=>h2 _ (edges_get (by simp[hi]) he hb)⟩
theorem cAt_inv {i:Nat}{x:AI}(hc:cAt P n ops i=some x):∃o g ao,ops[i]?=some o/\cOper P n ops o=some (g,ao)/\x=.op o.dst g ao:=by
 unfold cAt at hc;split at hc
 ·rename_i o ho;simp only[Option.map_eq_some_iff] at hc;obtain⟨⟨g,ao⟩,hc,rfl⟩:=hc;exact⟨o,g,ao,ho,hc,rfl⟩
 ·cases hc
theorem draw_end {A:List (List Nat)}{F:List Bool}{call:CallT}{cf:Nat}{done:List Nat}{ais:List AI}(hall:∀i,i<ops.size->i∈done)(hc:cDraw P n ops A F cf done=some ais)(hr:runL call lim ais f h=some (f',h')):f'=f/\h'=h:=by
 have hp:∀want,pick1 ops F want done=none:=by
  intro want;cases e:pick1 ops F want done with
  | none=>rfl
  | some i=>have:=pick_some e; exact absurd (hall i this.1) this.2.2.1
 cases cf with
 | zero=>cases hc; cases hr; exact⟨rfl,rfl⟩
 | succ cf=>simp only[cDraw,hp] at hc; cases hc; cases hr; exact⟨rfl,rfl⟩
theorem draw_advance {call:CallT}{listed:Array Bool}:∀(cf:Nat) (done:List Nat) (ais:List AI) (f:Fr) (h:Hp) (B:Nat->Option Nat),
  DI P n lim ops (frees P ops (aheadTo ops ops.size)) m0 h0 w0 a0 done listed B f h m a w->cDraw P n ops (aheadTo ops ops.size) (frees P ops (aheadTo ops ops.size)) cf done=some ais->runL call lim ais f h=some (f',h')->left ops done<=cf ->
  ∃cf' done' ais' f1 h1 B',DI P n lim ops (frees P ops (aheadTo ops ops.size)) m0 h0 w0 a0 done' listed B' f1 h1 m a w/\cDraw P n ops (aheadTo ops ops.size) (frees P ops (aheadTo ops ops.size)) cf' done'=some ais' /\
   runL call lim ais' f1 h1=some (f',h')/\left ops done'<=cf'/\pick1 ops (frees P ops (aheadTo ops ops.size)) true done'=none:=by
 intro cf
 induction cf with
 | zero =>
  intro done ais f h B D hc hr hl;refine⟨0,done,ais,f,h,B,D,hc,hr,hl,?_⟩;cases e:pick1 ops (frees P ops (aheadTo ops ops.size)) true done with
  | none=>rfl
  | some i=>have:=pick_some e; exact absurd (left_zero (Nat.le_zero.1 hl) this.1) this.2.2.1
 | succ cf ih =>
  intro done ais f h B D hc hr hl;cases e:pick1 ops (frees P ops (aheadTo ops ops.size)) true done with
  | none=>exact⟨cf+1,done,ais,f,h,B,D,hc,hr,hl,e⟩
  | some i =>
   simp only[cDraw,e] at hc;split at hc
   ·rename_i x l hx hcl;cases hc;obtain⟨o,g,ao,ho,hcc,rfl⟩:=cAt_inv hx;simp only[runL] at hr;split at hr
    ·rename_i f1 h1 hr1;obtain⟨p1,p2,p3,p4⟩:=pick_some e;obtain⟨B',D'⟩:=D.free p2 p3 p4 ho hcc hr1;exact ih (i::done) l f1 h1 B' D' hcl hr (by have:=left_cons p1 p3; omega)
    ·cases hr
   ·cases hc
theorem draw_all {call:CallT}(hco:CallOk P call lim)(hdr:drawOk ops (aheadTo ops ops.size) (frees P ops (aheadTo ops ops.size))=true)(hll:lim<=h0.length)(r:Option Nat)(Q:Exit->Act->World->Prop)
  (hQ:∀m' a' w',FR m' n (fun _=>False) f' a'.tmps->a'.defers=a0.defers->HR m' h' w'->Step lim m0 h0 w0 m' h' w'->Q .normal a' w') :
  ∀(k:Nat) (listed:Array Bool) (done:List Nat) (cf:Nat) (ais:List AI) (f:Fr) (h:Hp) (B:Nat->Option Nat) (m:Mp) (a:Act) (w:World),
  DI P n lim ops (frees P ops (aheadTo ops ops.size)) m0 h0 w0 a0 done listed B f h m a w->unl ops listed<=k->cDraw P n ops (aheadTo ops ops.size) (frees P ops (aheadTo ops ops.size)) cf done=some ais->runL call lim ais f h=some (f',h')->left ops done<=cf ->
  wpAnyIn (FW r) 0 P .any ops Q k listed a w:=by
 have fin:∀(listed:Array Bool) (done:List Nat) (cf:Nat) (ais:List AI) (f:Fr) (h:Hp) (B:Nat->Option Nat) (m:Mp) (a:Act) (w:World),
   DI P n lim ops (frees P ops (aheadTo ops ops.size)) m0 h0 w0 a0 done listed B f h m a w->(∀i,i<ops.size->listed.getD i false=true)->cDraw P n ops (aheadTo ops ops.size) (frees P ops (aheadTo ops ops.size)) cf done=some ais->runL call lim ais f h=some (f',h')->Q .normal a w:=by
  intro listed done cf ais f h B m a w D hall hc hr;obtain⟨rfl,rfl⟩:=draw_end (fun i hi=>D.sub i (hall i hi)) hc hr;refine hQ m a w ⟨D.fr.size,fun t ht _=>D.fr.get t ht fun⟨j,j1,j2,_⟩=>?_⟩ D.df D.hr D.st;rw[hall j (D.lt j j1)] at j2; cases j2
 have stuck:∀(listed:Array Bool),listed.size=ops.size->Region.ready .any ops listed=[]->∀i,i<ops.size->listed.getD i false=true:=by
  intro listed hs hnil i
  induction i using Nat.strongRecOn with
  | _ i ih =>
   intro hi;cases e:listed.getD i false with
   | true=>rfl
   | false =>
    have:i∈Region.ready .any ops listed:=(ready_iff hs).2 ⟨hi,e,fun x hx=>by
     have:=(drawOk_inv hdr).1 i hi x hx;exact ih x this (by omega)⟩
    rw[hnil] at this; cases this
 intro k
 induction k with
 | zero =>
  intro listed done cf ais f h B m a w D hk hc hr hl;have hall:∀i,i<ops.size->listed.getD i false=true:=fun i hi=>unl_zero (Nat.le_zero.1 hk) hi;refine⟨?_,fin listed done cf ais f h B m a w D hall hc hr⟩;apply List.eq_nil_iff_forall_not_mem.2;intro i hi;have:=(ready_iff D.lsz).1 hi;rw[hall i this.1] at this;cases this.2.1
 | succ k ih =>
  intro listed done cf ais f h B m a w D hk hc hr hl;obtain⟨cf,done,ais,f,h,B,D,hc,hr,hl,hn⟩:=draw_advance cf done ais f h B D hc hr hl;refine⟨fun hnil=>fin listed done cf ais f h B m a w D (stuck listed D.lsz hnil) hc hr,fun i hi=>?_⟩;obtain⟨hi,hun,he⟩:=(ready_iff D.lsz).1 hi;have hk':=unl_set D.lsz hi hun
  by_cases hd:i∈done
  ·refine D.list hll hd hun he r _ Q fun B' m' a' w' D'=>?_;exact ih _ done cf ais f h B' m' a' w' D' (by omega) hc hr hl
  ·have hF:(frees P ops (aheadTo ops ops.size)).getD i false=false:=by
    cases e:(frees P ops (aheadTo ops ops.size)).getD i false with
    | false=>rfl
    | true=>exact absurd (pick_none hn hi e fun x hx=>D.sub x (he x hx)) hd
   cases cf with
   | zero=>exact absurd (left_zero (Nat.le_zero.1 hl) hi) hd
   | succ cf =>
    have hp:pick1 ops (frees P ops (aheadTo ops ops.size)) false done=some i:=by
     cases e:pick1 ops (frees P ops (aheadTo ops ops.size)) false done with
     | none=>exact absurd (pick_none e hi hF fun x hx=>D.sub x (he x hx)) hd
     | some s =>
      obtain⟨s1,s2,s3,s4⟩:=pick_some e
      by_cases hsi:s=i
      ·rw[hsi]
      ·exfalso;have hAi:∀j∈(aheadTo ops ops.size).getD i [],listed.getD j false=true:=ahead_sub (S:=fun x=>listed.getD x false=true) D.cls _ _ he;have hAs:∀j∈(aheadTo ops ops.size).getD s [],j∈done:=ahead_sub (S:=fun x=>x∈done) D.cld _ _ s4;rcases((drawOk_inv hdr).2 i hi hF s s1 hsi).1 with h1 | h1 | h1
       ·rw[s2] at h1; cases h1
       ·exact hd (hAs i h1)
       ·exact s3 (D.sub s (hAi s h1))
    simp only[cDraw,hn,hp] at hc;split at hc
    ·rename_i x c l hx hcc hcl;cases hc;obtain⟨o,g,ao,ho,hco',rfl⟩:=cAt_inv hx;simp only[runL] at hr;split at hr
     ·rename_i f1 h1 hr1;obtain⟨hr2,hch⟩:=chks_run done c hcc hr;refine D.sync hco hdr hll hi hF hd he ho hco' hr1 hch r _ Q fun m' a' w' D'=>?_;exact ih _ (i::done) cf l f1 h1 B m' a' w' D' (by omega) hcl hr2 (by have:=left_cons hi hd; omega)
     ·cases hr
    ·cases hc
theorem drawn_hr (H:HR m h w):HR m h { w with drawn:=w.drawn+1 }:=H.heap rfl
theorem reg_wp {call:CallT}(hmix:P.follows .mixedOrders=true)(hco:CallOk P call lim){id:Nat}{d:Bool}{ais:List AI}(hc:cReg P n ops d=some ais)(hr:runL call lim ais f h=some (f',h'))(hll:lim<=h.length)(F:FR m n (fun _=>False) f a.tmps)(H:HR m h w)
  (r:Option Nat)(Q:Exit->Act->World->Prop)(hQ:∀m' a' w',FR m' n (fun _=>False) f' a'.tmps->a'.defers=a.defers->HR m' h' w'->Step lim m h w m' h' w'->Q .normal a' w'):(Code.region id ops d).wpIn (FW r) 0 P Q a w:=by
 unfold cReg at hc;split at hc
 ·rename_i hd;subst hd;simp only at hc;split at hc
  ·rename_i hdr;refine wpIn_region_any hmix ?_;refine draw_all (m0:=m) (h0:=h) (w0:=w) (a0:=a) hco hdr hll r Q hQ ops.size _ [] ops.size ais f h (fun _=>none) m a _ ?_ ?_ hc hr ?_
   ·have hl:∀i,(Array.replicate ops.size false).getD i false=false:=by
     intro i; simp only[Array.getD_eq_getD_getElem?,Array.getElem?_replicate]; split<;>rfl
    exact⟨by simp,fun i hi=>(by rw[hl] at hi; cases hi),fun i hi=>(by cases hi),fun i hi=>(by rw[hl] at hi; cases hi),fun i hi=>(by cases hi),fun i hi=>(by cases hi),fun i hi=>(by cases hi),fun i b e=>(by cases e),fun i j b e=>(by cases e),
     ⟨F.size,fun t ht _=>F.get t ht (fun hh=>hh)⟩,drawn_hr H,Step.heap rfl rfl rfl rfl,rfl⟩
   ·exact Nat.le_trans (List.length_filter_le _ _) (by simp)
   ·exact Nat.le_trans (List.length_filter_le _ _) (by simp)
  ·cases hc
 ·rename_i hd;have hd:d=false:=by simpa using hd
  subst hd;refine wpIn_region ?_;have:=plain_wp (ops:=ops) hco r Q ops.toList 0 ais (fun j=>by simp) hc hr hll F H hQ;rw[List.range_eq_range'];simpa using this
end
section
variable [Start]
variable {P:Program}{lim n:Nat}{m m' m0:Mp}{h h' h0:Hp}{w w' w0:World}{f f':Fr}{a:Act}
def exitOf:AX->Exit
 | .norm=>.normal
 | .exit i=>.exit i
 | .ret=>.ret
theorem alloc_hr (H:HR m h w)(o:Obj):HR m h (w.alloc o) :=
 ⟨H.gl.of (by simp) (fun c hc _=>Go.RowKit.Below.heap_alloc w _ c hc) (fun b p e ho=>Or.inr ⟨b,p,e,ho,rfl⟩),fun b p e=>⟨(H.dom b p e).1,by have:=(H.dom b p e).2; simp; omega⟩,fun b p k e f=>(H.blk b p k e f).same (Go.RowKit.Below.heap_alloc w _ _ (H.dom b p e).2),H.inj,H.off⟩
theorem alloc_step (H:HR m h w)(o:Obj):Step lim m h w m h (w.alloc o) :=
 ⟨Sub.refl m,fun b p e e'=>absurd (e.symm.trans e') (by simp),Nat.le_refl _,fun _ _ _=>rfl,fun c hc _=>Go.RowKit.Below.heap_alloc w _ c hc,by simp,rfl,rfl,rfl,
  fun l _ hL b p k hb e f=>(hL b p k hb e f).same (Go.RowKit.Below.heap_alloc w _ _ (H.dom b p e).2)⟩
def Marks (w0:World)(m:Mp)(w:World)(bs:List Nat):Prop :=
 bs.Nodup/\∀b∈bs,w0.heap.size<=b/\b<w.heap.size/\w.heap[b]?=some (.deferred (some []))/\∀i p,m i=some p->p.c≠b
theorem Marks.step {bs:List Nat}(M:Marks w0 m w bs)(S:Step lim m h w m' h' w'):Marks w0 m' w' bs:=by
 refine⟨M.1,fun b hb=>?_⟩;obtain⟨h1,h2,h3,h4⟩:=M.2 b hb;refine⟨h1,Nat.lt_of_lt_of_le h2 S.size,(S.cf b h2 fun i p e _=>h4 i p e).trans h3,fun i p e=>?_⟩;cases e0:m i with
 | some q =>
  have:=S.ext _ _ e0;rw[e] at this; cases this;exact h4 i p e0
 | none =>
  rcases(S.new i p e e0).2 with k | ⟨b0,p0,g1,g2,g3⟩
  ·omega
  ·exact fun e2=>h4 b0 p0 g1 (g3.trans e2)
structure CR (n:Nat)(w0:World)(top:Bool)(m:Mp)(f:Fr)(h:Hp)(a:Act)(w:World):Prop where
 fr:FR m n (fun _=>False) f a.tmps
 hr:HR m h w
 marks:∃bs:List Nat,a.defers=bs.map (fun b=>⟨.collected b,#[]⟩)/\(top=false->bs=[])/\Marks w0 m w bs
theorem CR.step {top:Bool}{a':Act}(C:CR n w0 top m f h a w)(F:FR m' n (fun _=>False) f' a'.tmps)(hd:a'.defers=a.defers)(H:HR m' h' w')(S:Step lim m h w m' h' w'):CR n w0 top m' f' h' a' w':=by
 obtain⟨bs,h1,h2,h3⟩:=C.marks;exact⟨F,H,bs,hd.trans h1,h2,h3.step S⟩
theorem rf_resolve {g:Operand}{gid:FuncId}{first captured:Array Value}{l:Nat}(hg:a.eval g=.func (.func gid) first captured) :
  (resolve a.eval (rangeCall g l) 0).run P w=.ok ⟨.fn (.func gid) captured,first++#[.func (.yield l) #[] #[]]⟩ w:=by
 have e0:(#[Operand.const (.func (.yield l) #[] #[])]:Array Operand).map a.eval=#[Value.func (.yield l) #[] #[]]:=by rw[List.map_toArray]; rfl
 have e1:resolve a.eval (rangeCall g l) 0=Deferred.ofValue (a.eval g) #[Value.func (.yield l) #[] #[]]:=by
  simp only[resolve,e0]
 rw[e1,hg];rfl
theorem code_wp {call:CallT}{fuel:Nat}{top:Bool}{r:Option Nat}(hP:P=Go.Proofs.Tryz.prog)(hmix:P.follows .mixedOrders=true)(hco:CallOk P call lim)(htr:top=true->r=none) :
  ∀(c:Code) (f:Fr) (h:Hp) (x:AX) (f':Fr) (h':Hp),evC call fuel lim (cCode P n top c) f h=some (x,f',h')->lim<=h.length->∀(m:Mp) (a:Act) (w:World),CR n w0 top m f h a w->w0.heap.size<=w.heap.size ->
  ∀(Q:Exit->Act->World->Prop),(∀m' a' w',CR n w0 top m' f' h' a' w'->Step lim m h w m' h' w'->Q (exitOf x) a' w')->c.wpIn (FW r) 0 P Q a w:=by
 intro c
 induction c with
 | skip =>
  intro f h x f' h' he hl m a w C hw Q hQ;simp only[cCode,evC,Option.some.injEq,Prod.mk.injEq] at he;obtain⟨rfl,rfl,rfl⟩:=he;exact wpIn_skip (hQ m a w C (Step.refl _ _ _ _))
 | region id ops d =>
  intro f h x f' h' he hl m a w C hw Q hQ;simp only[cCode] at he;split at he
  ·rename_i l hc;simp only[evC,Option.map_eq_some_iff,Prod.mk.injEq] at he;obtain⟨⟨f1,h1⟩,hr,rfl,rfl,rfl⟩:=he;exact reg_wp hmix hco hc hr hl C.fr C.hr r Q fun m' a' w' F hd H S=>hQ m' a' w' (C.step F hd H S) S
  ·simp[evC] at he
 | seq c1 c2 ih1 ih2 =>
  intro f h x f' h' he hl m a w C hw Q hQ;simp only[cCode,evC] at he;refine wpIn_seq ?_;split at he
  ·rename_i f1 h1 he1;refine ih1 f h .norm f1 h1 he1 hl m a w C hw _ fun m' a' w' C' S=>?_;exact ih2 f1 h1 x f' h' he (Nat.le_trans hl S.len) m' a' w' C' (Nat.le_trans hw S.size) Q fun m2 a2 w2 C2 S2=>hQ m2 a2 w2 C2 (S.trans S2)
  ·rename_i r2 hne;refine ih1 f h x f' h' he hl m a w C hw _ fun m' a' w' C' S=>?_;have hx:x≠.norm:=fun e=>hne f' h' (by rw[he,e]);have:=hQ m' a' w' C' S;cases x with
   | norm=>exact absurd rfl hx
   | exit i=>exact this
   | ret=>exact this
 | cond c c1 c2 ih1 ih2 =>
  intro f h x f' h' he hl m a w C hw Q hQ;simp only[cCode] at he;split at he
  ·rename_i hok;simp only[evC] at he;have hv:=C.fr.ev hok (fun _ _=>id);split at he
   ·rename_i e; rw[e] at hv; exact wpIn_cond_true hv.bool' (ih1 f h x f' h' he hl m a w C hw Q hQ)
   ·rename_i e; rw[e] at hv; exact wpIn_cond_false hv.bool' (ih2 f h x f' h' he hl m a w C hw Q hQ)
   ·cases he
  ·simp[evC] at he
 | block id c ih =>
  intro f h x f' h' he hl m a w C hw Q hQ;simp only[cCode,evC] at he;refine wpIn_block ?_;split at he
  ·rename_i i f1 h1 he1;refine ih f h (.exit i) f1 h1 he1 hl m a w C hw _ fun m' a' w' C' S=>?_;simp only[exitOf,Exit.inBlock];split at he
   ·rename_i e; cases he; rw[if_pos e]; exact hQ m' a' w' C' S
   ·rename_i e; cases he; rw[if_neg e]; exact hQ m' a' w' C' S
  ·rename_i r2 hne;refine ih f h x f' h' he hl m a w C hw _ fun m' a' w' C' S=>?_;have:=hQ m' a' w' C' S;cases x with
   | norm=>exact this
   | exit i=>exact absurd he (hne i f' h')
   | ret=>exact this
 | loop c ih =>
  intro f h x f' h' he hl m a w C hw Q hQ;simp only[cCode,evC] at he;refine wpIn_loop_rounds fuel ?_
  have key:∀(k:Nat) (f:Fr) (h:Hp),lp (fun f h=>evC call fuel lim (cCode P n top c) f h) k f h=some (x,f',h')->lim<=h.length->∀(m:Mp) (a:Act) (w:World),CR n w0 top m f h a w->w0.heap.size<=w.heap.size ->
    (∀m' a' w',CR n w0 top m' f' h' a' w'->Step lim m h w m' h' w'->Q (exitOf x) a' w')->Code.roundsIn (FW r) 0 P c Q k a w:=by
   intro k
   induction k with
   | zero=>intro f h he; simp[lp] at he
   | succ k ihk =>
    intro f h he hl m a w C hw hQ;rw[roundsIn_succ];simp only[lp] at he;split at he
    ·rename_i f1 h1 he1;refine ih f h .norm f1 h1 he1 hl m a w C hw _ fun m' a' w' C' S=>?_;exact ihk f1 h1 he (Nat.le_trans hl S.len) m' a' w' C' (Nat.le_trans hw S.size) fun m2 a2 w2 C2 S2=>hQ m2 a2 w2 C2 (S.trans S2)
    ·rename_i r2 hne;refine ih f h x f' h' he hl m a w C hw _ fun m' a' w' C' S=>?_;have:=hQ m' a' w' C' S;cases x with
     | norm=>exact absurd he (hne f' h')
     | exit i=>exact this
     | ret=>exact this
  exact key fuel f h he hl m a w C hw hQ
 | exit id =>
  intro f h x f' h' he hl m a w C hw Q hQ;simp only[cCode,evC,Option.some.injEq,Prod.mk.injEq] at he;obtain⟨rfl,rfl,rfl⟩:=he;exact wpIn_exit (hQ m a w C (Step.refl _ _ _ _))
 | ret =>
  intro f h x f' h' he hl m a w C hw Q hQ;simp only[cCode,evC,Option.some.injEq,Prod.mk.injEq] at he;obtain⟨rfl,rfl,rfl⟩:=he;exact wpIn_ret (hQ m a w C (Step.refl _ _ _ _))
 | rangeFunc g ps ca cb iha ihb =>
  intro f h x f' h' he hl m a w C hw Q hQ;simp only[cCode] at he;split at he
  ·rename_i hok;simp only[Bool.and_eq_true] at hok;obtain⟨⟨htop,hg⟩,hps⟩:=hok;obtain rfl:=htr htop;simp only[evC] at he;have hv:=C.fr.ev hg (fun _ _=>id);split at he
   ·rename_i gid first captured hgf
    rw[hgf] at hv;obtain⟨u,hu⟩:∃u,a.eval g=u:=⟨_,rfl⟩;rw[hu] at hv;cases hv with
    | fn _ na nb ha1 hb1 =>
     rename_i first' captured'
     split at he
     ·rename_i rv h2 hcall;refine wpIn_rangeFunc fun fn _=>?_;obtain⟨w1,hw1⟩:∃w1,w.alloc (.deferred (some []))=w1:=⟨_,rfl⟩;have hs1:w1.heap.size=w.heap.size+1:=by rw[<- hw1]; simp
      obtain⟨w2,hw2⟩:∃w2,w1.alloc (.loop { state:=.ready,pending:=none,fn:=fn,tmps:=a.tmps,params:=ps,assign:=ca,body:=cb,defers:=w.heap.size })=w2:=⟨_,rfl⟩;have H1:HR m h w1:=hw1▸alloc_hr C.hr _;have S1:Step lim m h w m h w1:=hw1▸alloc_step C.hr _
      have hBR:BR (ins m h.length ⟨w1.heap.size,0,0,true⟩) w2 ⟨w1.heap.size,0,0,true⟩ (.loop n f ps.toList ca cb (cCode P n false ca) (cCode P n false cb) .ready):=by
       refine⟨rfl,by rw[hP],by rw[hP],fun t ht=>by simpa using List.all_eq_true.1 hps t ht,a.tmps,fn,w.heap.size,.ready,none,?_,.ready,C.fr.size,fun t ht=>(C.fr.get t ht id).mono (ins_sub C.hr _)⟩;rw[<- hw2,heap_new]
      obtain⟨H2,S2⟩:=new_step (lim:=lim) (w':=w2) H1 hl _ ⟨w1.heap.size,0,0,true⟩ rfl (by rw[<- hw2]; simp) (fun c hc=>by rw[<- hw2]; exact Go.RowKit.Below.heap_alloc w1 _ c hc) (by rw[<- hw2]; rfl) (by rw[<- hw2]; rfl) (by rw[<- hw2]; rfl) hBR;have hyl:VR (ins m h.length ⟨w1.heap.size,0,0,true⟩) (.func (.yield h.length) #[] #[]) (.func (.yield w1.heap.size) #[] #[]):=.yl (p:=⟨w1.heap.size,0,0,true⟩) (ins_self _ _ _);have hsub:=ins_sub C.hr ⟨w1.heap.size,0,0,true⟩
      have hL:LR (ins m h.length ⟨w1.heap.size,0,0,true⟩) (first.toList++.func (.yield h.length) #[] #[]::captured.toList) (first'++#[Value.func (.yield w1.heap.size) #[] #[]]++captured').toList:=by
       simp only[Array.toList_append,List.append_assoc];exact((LR.arr.2 ⟨na,ha1⟩).mono hsub).append (.cons hyl ((LR.arr.2 ⟨nb,hb1⟩).mono hsub))
      obtain⟨c1,c2⟩:=hco.1 gid _ _ rv h2 hcall _ w2 _ H2 (by simp; omega) hL;refine⟨w1.heap.size,[⟨.collected w.heap.size,#[]⟩],w2,⟨.fn (.func gid) captured',first'++#[Value.func (.yield w1.heap.size) #[] #[]]⟩,w2,gid,first'++#[Value.func (.yield w1.heap.size) #[] #[]]++captured',w2,?_,rf_resolve hu,fun _ _=>trivial,c1 w2,fun hh=>by simp[Fence.wide] at hh,?_⟩
      ·simp[Instr.enterLoop,newObj,Sem.run,hw1,hw2]
      ·refine CallsIn.mono (show CallsIn (FW none) (0-1) P gid _ w2 _ from c2) ?_;rintro e w3 ⟨v',m3,rfl,hv3,H3,S3⟩;have hm3:m3 h.length=some ⟨w1.heap.size,0,0,true⟩:=S3.ext _ _ (ins_self _ _ _);have hS:Step lim m h w m3 h2 w3:=S1.trans (S2.trans S3);obtain⟨bs,b1,b2,b3⟩:=C.marks
       have M2:Marks w0 (ins m h.length ⟨w1.heap.size,0,0,true⟩) w2 (w.heap.size::bs):=by
        refine⟨List.nodup_cons.2 ⟨fun hh=>by have:=(b3.2 _ hh).2.1; omega,b3.1⟩,fun b hb=>?_⟩;rcases List.mem_cons.1 hb with rfl | hb
        ·refine⟨hw,by rw[<- hw2]; simp; omega,?_,fun i p e=>?_⟩
         ·rw[<- hw2,Go.RowKit.Below.heap_alloc w1 _ _ (by omega),<- hw1,heap_new]
         ·rcases ins_inv e with⟨rfl,rfl⟩ | ⟨_,e⟩
          ·simp; omega
          ·have:=(C.hr.dom i p e).2; omega
        ·obtain⟨q1,q2,q3,q4⟩:=(b3.step (S1.trans S2)).2 b hb;exact⟨q1,q2,q3,q4⟩
       have M3:=M2.step S3
       have fin:∀(k:Blk) (R:Loop) (x:AX),h2[h.length]?=some k->k≠.dead->w3.heap[w1.heap.size]?=some (.loop R)->R.state≠.busy ->
         (∀m' a' w',CR n w0 top m' f (h2.set h.length .dead) a' w'->Step lim m h w m' (h2.set h.length .dead) w'->Q (exitOf x) a' w') ->
         ∃w4,(Instr.endLoop w1.heap.size).run P w3=.ok R.pending w4/\Q (exitOf x) { a with defers:=[⟨.collected w.heap.size,#[]⟩]++a.defers } w4:=by
        intro k R x hk hkd hheap hst hq;have hlt:w1.heap.size<w3.heap.size:=(H3.dom _ _ hm3).2
        obtain⟨H4,S4⟩:=write_step (lim:=lim) (w':={ w3 with heap:=w3.heap.setIfInBounds w1.heap.size (.loop { R with state:=.exhausted }) }) (k':=.dead) H3 hm3 hk hkd rfl
         (by simp) (fun c hc=>by simp only; rw[Array.getElem?_setIfInBounds_ne (Ne.symm hc)]) rfl rfl rfl trivial (fun _ _ _ _ _=>trivial)
        refine⟨_,?_,hq m3 _ _ ⟨C.fr.mono hS.ext,H4,w.heap.size::bs,by simp[b1],(fun e=>absurd htop (by simp[e])),M3.step S4⟩ (hS.trans S4)⟩;simp[Instr.endLoop,Instr.getLoop,getObj,setObj,Sem.run,hheap,hst]
       split at he
       ·rename_i q1 q2 q3 q4 q5 q6 q7 hk;cases he;obtain⟨-,-,-,-,tmps,fn',df,s',pd,g1,g2,-⟩:=H3.blk _ _ _ hm3 hk;cases g2;obtain⟨w4,e1,e2⟩:=fin _ _ .norm hk (by simp) g1 (by simp) hQ;exact⟨none,w4,e1,e2⟩
       ·rename_i q1 q2 q3 q4 q5 q6 q7 x' hk;cases he;obtain⟨-,-,-,-,tmps,fn',df,s',pd,g1,g2,-⟩:=H3.blk _ _ _ hm3 hk;cases g2 with
        | exit i =>
         obtain⟨w4,e1,e2⟩:=fin _ _ (.exit i) hk (by simp) g1 (by simp) hQ;exact⟨_,w4,e1,wpIn_exit e2⟩
        | ret =>
         obtain⟨w4,e1,e2⟩:=fin _ _ .ret hk (by simp) g1 (by simp) hQ;exact⟨_,w4,e1,wpIn_ret e2⟩
       ·cases he
     ·cases he
   ·cases he
  ·simp[evC] at he
 | _=>intro f h x f' h' he; simp[cCode,evC] at he
end
section
variable [Start]
variable {P:Program}{lim n:Nat}{m m' m0:Mp}{h h' h0:Hp}{w w' w0:World}{f f':Fr}{a:Act}
theorem res_one {r:ResultVar}{ar:ARes}(hc:cRes P n [r]=some [ar]){tmps:Array Value}(F:FR m n (fun _=>False) f tmps)(H:HR m h w){v:Value}(hr:ar.get f h=some v) :
  ∃v',(match r with | .tmp t=>(pure (tmps.getD t undef):Sem Value) | .cell a t=>(do loadVar t (<- asAddr (tmps.getD a undef)))).run P w=.ok v' w/\VR m v v':=by
 cases r with
 | tmp t =>
  simp only[cRes] at hc;split at hc
  ·rename_i ht;cases hc;simp only[ARes.get,Option.some.injEq] at hr;subst hr;exact⟨_,rfl,F.get t ht (fun hh=>hh)⟩
  ·cases hc
 | cell a t =>
  simp only[cRes] at hc;split at hc
  ·rename_i s g l hs hg hl;split at hc
   ·rename_i ha;cases hc;cases hl;have hv:=F.get a ha (fun hh=>hh);simp only[ARes.get] at hr;split at hr
    ·rename_i b o e;rw[e] at hv;obtain⟨u,hu⟩:∃u,tmps.getD a undef=u:=⟨_,rfl⟩;rw[hu] at hv;simp only[hu];cases hv with
     | ptr hm =>
      cases g with
      | true =>
       simp only[if_true,Option.map_eq_some_iff] at hr;obtain⟨cs,hcs,rfl⟩:=hr;obtain⟨hl,fv,e1,e2⟩:=rd_cells H hcs hm;refine⟨_,?_,LR.aggL e2⟩;simp only[asAddr,loadVar,Sem.run_bind,Sem.run_pure,Result.andThen_ok,run_isAgg' hg,if_true,run_sizeOf' hs,run_loadN (P:=P) (w:=w) (a:=⟨_,_,none⟩) e1 rfl]
      | false =>
       simp only[Bool.false_eq_true,if_false] at hr;obtain⟨v',e1,e2⟩:=rd_cell H hr hm;refine⟨v',?_,e2⟩;simp only[asAddr,loadVar,Sem.run_bind,Sem.run_pure,Result.andThen_ok,run_isAgg' hg,Bool.false_eq_true,if_false,run_load,e1]
    ·cases hr
   ·cases hc
  ·cases hc
theorem cRes_cons {r:ResultVar}{l:List ResultVar}{ars:List ARes}(hc:cRes P n (r::l)=some ars):∃ar l',ars=ar::l'/\cRes P n [r]=some [ar]/\cRes P n l=some l':=by
 cases r with
 | tmp t =>
  simp only[cRes] at hc ⊢;split at hc
  ·rename_i ht;simp only[Option.map_eq_some_iff] at hc;obtain⟨l',hl,rfl⟩:=hc;exact⟨_,l',rfl,by rw[if_pos ht]; rfl,hl⟩
  ·cases hc
 | cell a t =>
  simp only[cRes] at hc ⊢;split at hc
  ·rename_i s g l' hs hg hl;split at hc
   ·rename_i ha;cases hc;exact⟨_,l',rfl,by rw[hs,hg]; simp[ha],hl⟩
   ·cases hc
  ·cases hc
theorem res_list {tmps:Array Value}(F:FR m n (fun _=>False) f tmps)(H:HR m h w):∀ {l:List ResultVar} {ars:List ARes} {vs:List Value},cRes P n l=some ars->resL f h ars=some vs ->
  ∃vs',(l.mapM fun(r:ResultVar)=>(match r with | .tmp t=>(pure (tmps.getD t undef):Sem Value) | .cell a t=>(do loadVar t (<- asAddr (tmps.getD a undef))))).run P w=.ok vs' w/\LR m vs vs':=by
 intro l
 induction l with
 | nil=>intro ars vs hc hr; cases hc; cases hr; exact⟨[],rfl,.nil⟩
 | cons r l ih =>
  intro ars vs hc hr;obtain⟨ar,l',rfl,hc1,hc2⟩:=cRes_cons hc;simp only[resL] at hr;split at hr
  ·rename_i v vs1 hv hvs;cases hr;obtain⟨v',e1,e2⟩:=res_one hc1 F H hv;obtain⟨vs',e3,e4⟩:=ih hc2 hvs;refine⟨v'::vs',?_,.cons e2 e4⟩;rw[List.mapM_cons];simp only[Sem.run_bind,e1,e3,Result.andThen_ok,Sem.run_pure]
  ·cases hr
theorem res_val {fn:Func}{tmps:Array Value}(F:FR m n (fun _=>False) f tmps)(H:HR m h w){ars:List ARes}{v:Value}(hc:cRes P n fn.results.toList=some ars)(hr:resV f h ars=some v) :
  ∃v',(results fn tmps).run P w=.ok v' w/\VR m v v':=by
 unfold resV at hr
 have key:∃vs,resL f h ars=some vs/\v=(match vs with | [v]=>v | vs=>.tuple vs.toArray):=by
  cases e:resL f h ars with
  | none=>rw[e] at hr; cases hr
  | some vs =>
   rw[e] at hr;refine⟨vs,rfl,?_⟩;split at hr<;>simp_all
 obtain⟨vs,h1,rfl⟩:=key;obtain⟨vs',e1,e2⟩:=res_list (P:=P) F H hc h1
 have hrun:(results fn tmps).run P w=((fn.results.toList.mapM fun(r:ResultVar)=>(match r with | .tmp t=>(pure (tmps.getD t undef):Sem Value) | .cell a t=>(do loadVar t (<- asAddr (tmps.getD a undef))))).run P w).andThen
   fun a w'=>(pure (if h:a.toArray.size=1 then a.toArray[0] else .tuple a.toArray):Sem Value).run P w':=by
  unfold results;simp only[Array.mapM_eq_mapM_toList,Functor.map];rw[Sem.run_bind];show(Sem.run P ((List.mapM _ fn.results.toList) >>= (Sem.pure∘List.toArray)) w).andThen _=_;rw[Sem.run_bind];generalize hq:Sem.run P (List.mapM _ fn.results.toList) w=q;cases q<;>rfl
 rw[hrun,e1];simp only[Result.andThen_ok,Sem.run_pure];refine⟨_,rfl,?_⟩;split
 ·rename_i v;obtain⟨v',vs1,rfl,h2,h3⟩:=e2.cases_cons;obtain rfl:=h3.cases_nil;simpa using h2
 ·rename_i hne;rw[dif_neg]
  ·exact LR.tupL e2
  ·intro hsz;have hl:=e2.1;simp only[List.size_toArray] at hsz;rw[hsz] at hl;obtain⟨x,rfl⟩:=List.length_eq_one_iff.1 hl;exact hne x rfl
end
end Go.Ab
