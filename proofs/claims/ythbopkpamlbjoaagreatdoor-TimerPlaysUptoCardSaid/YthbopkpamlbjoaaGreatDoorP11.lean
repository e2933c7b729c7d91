/- TimerPlays: its row, the bounded one, holds with its card. No condition. -/
import Derived.WalkKit
import Derived.OwnWalk
import Derived.LoopTactic
import Derived.Outline
import Derived.Lib.Hide
import Derived.Deep.QuietTactic
import Derived.Deep.RegionHeld3
import Derived.Shelf.Abstract
import Derived.Lib.AtoiErrMem
import Derived.Tactics2
import Derived.Test.YthbopkpamlbjoaaGreatDoorRows
import Derived.Lib.LaidU8
import Derived.PinnedBridge
import Derived.LaidMore
import Derived.JoinedOf
import Derived.JoinedCond
import Derived.KernelRfl
import Derived.Deep.DeepWitnessRowRef
import Derived.SevenTiedAt
import Derived.Lib.BitFns
import Derived.Lib.IndexBytes
import Derived.Lib.ParseIntB
import Derived.Lib.TrimU
import Derived.Lib.SlKeysI
import Derived.Maps.Own
import Derived.Test.YthbopkpamlbjoaaGreatDoorP09
import Derived.Test.YthbopkpamlbjoaaGreatDoorP10
set_option linter.unusedSimpArgs false
set_option linter.unusedVariables false
set_option linter.unusedSectionVars false
set_option maxHeartbeats 4000000
namespace Go.Ab
section
open Go.RowKit Go.Shelf Go.Sort Go.Proofs
open Go.Proofs (Tryz.prog)
def orF (l:List Int):Int:=match l with
 | []=>0
 | x::l=>if x=0 then orF l else x
set_option maxHeartbeats 4000000 in
set_option maxRecDepth 100000 in
theorem or3_calls (b:Nat) (l:List Int) (W:World) (hl:l.length=3) (hc:∀j,j<3->W.cell? ⟨b,j,none⟩=some (.int .i64 (l.getD j 0))) :
  Calls Tryz.prog 168 #[.slice (some ⟨b,0,none⟩) 3 3] W fun e w'=>e=.returned (.int .i64 (orF l))/\∃q,w'=W.drewN q:=by
 have HC:=Lib.hid hc;clear hc
 go_enter Tryz.func168,Tryz.ntmps168
 go_wp2_with fail
 go_loopw [8,5,2] (fun i _ r wr=>∃j:Nat,j<=3/\i=.int .i64 j/\r=.int .i64 0/\orF l=orF (l.drop j)/\∃q,wr=W.drewN q) (fun i _ _ _=>3-(RowKit.intOf i).toNat)
 case atStart=>exact⟨0,Nat.zero_le _,rfl,rfl,rfl,0,rfl⟩
 case round =>
  obtain⟨j,hj,rfl,rfl,ho,q,rfl⟩:=hrel
  by_cases hlt:j<3
  ·have c:=HC.out j hlt
   have hd:l.drop j=l.getD j 0::l.drop (j+1):=by
    rw[List.drop_eq_getElem_cons (by omega),List.getD_eq_getElem?_getD,List.getElem?_eq_getElem (by omega)];rfl
   rw[hd] at ho;have HO:=Lib.hid ho;clear ho hd;generalize l.getD j 0=x at c HO
   by_cases hx:x=0
   ·subst hx
    go_wp2_with fail
    exact⟨⟨j+1,hlt,by rw[Int.natCast_add]; rfl,rfl,by rw[HO.out]; rfl,q,rfl⟩,by simp[RowKit.intOf]; omega⟩
   ·go_wp2_with fail
    go_ret
    exact⟨by rw[HO.out]; simp[orF,hx],q,rfl⟩
  ·have ho:orF l=0:=by
    rw[ho,List.drop_eq_nil_of_le (by omega)];rfl
   go_wp2_with fail
   go_ret
   exact⟨by rw[ho]; rfl,q,rfl⟩
def Gr (W W':World):Prop:=∃q os,W'=grow (W.drewN q) os
theorem Gr.refl (W:World):Gr W W:=⟨0,#[],by simp[grow,World.drewN]⟩
theorem Gr.alloc {W W':World}(h:Gr W W')(o:Obj):Gr W (W'.alloc o):=by
 obtain⟨q,os,rfl⟩:=h;exact⟨q,os++#[o],by rw[alloc_eq_grow,grow_grow]⟩
theorem Gr.drewN {W W':World}(h:Gr W W')(n:Nat):Gr W (W'.drewN n):=by
 obtain⟨q,os,rfl⟩:=h;exact⟨q+n,os,by simp[grow,World.drewN,Nat.add_assoc]⟩
theorem Gr.drew {W W':World}(h:Gr W W'):Gr W W'.drew:=by
 obtain⟨q,os,rfl⟩:=h;exact⟨q+1,os,by simp[grow,World.drewN,World.drew,Nat.add_assoc]⟩
theorem alloc3_cell (W:World)(x y z:Int)(t:TypeId)(j:Nat)(hj:j<3):(W.alloc (.cells #[.int .i64 x,.int .i64 y,.int .i64 z] t)).cell? ⟨W.heap.size,j,none⟩=some (.int .i64 ([x,y,z].getD j 0)):=by
 match j,hj with
 | 0,_=>simp[go_sem]
 | 1,_=>simp[go_sem]
 | 2,_=>simp[go_sem]
theorem alloc3_drew (W:World)(x y z:Int)(t:TypeId)(j:Nat)(hj:j<3):(W.alloc (.cells #[.int .i64 x,.int .i64 y,.int .i64 z] t)).drew.cell? ⟨W.heap.size,j,none⟩=some (.int .i64 ([x,y,z].getD j 0)):=alloc3_cell W x y z t j hj
def encP (x:Int×Int×Int):List Value:=[.int .i64 x.1,.int .i64 x.2.1,.int .i64 x.2.2]
def cmpP (x y:Int×Int×Int):Int:=orF [Lib.compareInt x.1 y.1,Lib.compareInt x.2.1 y.2.1,Lib.compareInt x.2.2 y.2.2]
set_option maxHeartbeats 4000000 in
set_option maxRecDepth 100000 in
theorem ord_calls (x y:Int×Int×Int) (W:World):Calls Tryz.prog 108 #[.agg (encP x).toArray,.agg (encP y).toArray] W fun e w'=>e=.returned (.int .i64 (cmpP x y))/\∃q os',w'=grow (W.drewN q) os':=by
 have hcon:=fun a b W'=>AnyG.cmp_Compare_int Tryz.cmpJ a b W';change ∀a b W',Calls Tryz.prog 169 _ _ _ at hcon;have hor:=fun b l W' h1 h2=>or3_calls b l W' h1 h2;obtain⟨x1,x2,x3⟩:=x;obtain⟨y1,y2,y3⟩:=y;unfold cmpP;simp only[encP]
 go_enter Tryz.func108,Tryz.ntmps108
 go_wp2_with fail
 have g:=((Gr.refl W).alloc (.cells #[.int .i64 x1,.int .i64 x2,.int .i64 x3] 124)).alloc (.cells #[.int .i64 y1,.int .i64 y2,.int .i64 y3] 124);have a0:((W.alloc (.cells #[.int .i64 x1,.int .i64 x2,.int .i64 x3] 124)).alloc (.cells #[.int .i64 y1,.int .i64 y2,.int .i64 y3] 124)).cell? ⟨W.heap.size,0,none⟩=some (.int .i64 x1):=by simp[go_sem]
 have a1:((W.alloc (.cells #[.int .i64 x1,.int .i64 x2,.int .i64 x3] 124)).alloc (.cells #[.int .i64 y1,.int .i64 y2,.int .i64 y3] 124)).cell? ⟨W.heap.size,1,none⟩=some (.int .i64 x2):=by simp[go_sem]
 have a2:((W.alloc (.cells #[.int .i64 x1,.int .i64 x2,.int .i64 x3] 124)).alloc (.cells #[.int .i64 y1,.int .i64 y2,.int .i64 y3] 124)).cell? ⟨W.heap.size,2,none⟩=some (.int .i64 x3):=by simp[go_sem]
 have b0:((W.alloc (.cells #[.int .i64 x1,.int .i64 x2,.int .i64 x3] 124)).alloc (.cells #[.int .i64 y1,.int .i64 y2,.int .i64 y3] 124)).cell? ⟨W.heap.size+1,0,none⟩=some (.int .i64 y1):=by simp[go_sem]
 have b1:((W.alloc (.cells #[.int .i64 x1,.int .i64 x2,.int .i64 x3] 124)).alloc (.cells #[.int .i64 y1,.int .i64 y2,.int .i64 y3] 124)).cell? ⟨W.heap.size+1,1,none⟩=some (.int .i64 y2):=by simp[go_sem]
 have b2:((W.alloc (.cells #[.int .i64 x1,.int .i64 x2,.int .i64 x3] 124)).alloc (.cells #[.int .i64 y1,.int .i64 y2,.int .i64 y3] 124)).cell? ⟨W.heap.size+1,2,none⟩=some (.int .i64 y3):=by simp[go_sem]
 generalize (W.alloc (.cells #[.int .i64 x1,.int .i64 x2,.int .i64 x3] 124)).alloc (.cells #[.int .i64 y1,.int .i64 y2,.int .i64 y3] 124)=W2 at *
 go_region_held3 (fun V=>V.cell? ⟨W.heap.size,0,none⟩=some (.int .i64 x1)/\V.cell? ⟨W.heap.size,1,none⟩=some (.int .i64 x2)/\V.cell? ⟨W.heap.size,2,none⟩=some (.int .i64 x3)/\V.cell? ⟨W.heap.size+1,0,none⟩=some (.int .i64 y1)/\V.cell? ⟨W.heap.size+1,1,none⟩=some (.int .i64 y2)/\V.cell? ⟨W.heap.size+1,2,none⟩=some (.int .i64 y3)/\Gr W V)
  (refine⟨?_,?_,?_,?_,?_,?_,?_⟩<;>first | assumption | exact g | exact g.drew | exact(g.alloc _).drew | exact(g.alloc _).drewN _ | exact(Gr.alloc (by first | assumption | simp[*]) _) | exact(Gr.drew (by first | assumption | simp[*])) | exact(Gr.drewN (by first | assumption | simp[*]) _) | go_keep)
  (first | (go_at_call 169; refine(hcon _ _ _).mono ?_; rintro e w' ⟨rfl,rfl⟩) | (go_at_call 168; refine(hor _ [_,_,_] _ rfl (alloc3_drew _ _ _ _ _)).mono ?_; rintro e w' ⟨rfl,q,rfl⟩) | (go_at_call 168; refine(hor _ [_,_,_] _ rfl (alloc3_cell _ _ _ _ _)).mono ?_; rintro e w' ⟨rfl,q,rfl⟩))
 go_wp2_with fail
 go_ret
 exact⟨rfl,(g.alloc _).drewN _⟩
theorem cmp_lt (x y:Int):Lib.compareInt x y=if x<y then -1 else if y<x then 1 else 0:=by
 unfold Lib.compareInt;split<;>rfl
theorem ordP_lt (x y:Int×Int×Int):ltOf cmpP x y=(decide (x.1<y.1)||(decide (x.1=y.1)&&(decide (x.2.1<y.2.1)||(decide (x.2.1=y.2.1)&&decide (x.2.2<y.2.2))))):=by
 obtain⟨a,b,c⟩:=x;obtain⟨d,e,f⟩:=y;simp only[ltOf,cmpP,orF,cmp_lt]
 by_cases h1:a<d
 ·simp[h1]
 ·by_cases h2:d<a
  ·simp[h1,h2,Int.ne_of_gt h2]
  ·obtain rfl:a=d:=by omega
   by_cases h3:b<e
   ·simp[h3]
   ·by_cases h4:e<b
    ·simp[h3,h4,Int.ne_of_gt h4]
    ·obtain rfl:b=e:=by omega
     by_cases h5:c<f
     ·simp[h5]
     ·by_cases h6:f<c
      ·simp[h5,h6]
      ·simp[h5,h6]
theorem ordP_swo:SWO (ltOf cmpP) where
 irrefl x:=by rw[ordP_lt]; simp
 trans x y z h1 h2:=by
  rw[ordP_lt] at *;simp only[Bool.or_eq_true,Bool.and_eq_true,decide_eq_true_eq] at *;omega
 ntrans x y z h1 h2:=by
  rw[ordP_lt] at *;simp only[Bool.or_eq_false_iff,Bool.and_eq_false_iff,decide_eq_false_iff_not] at *;omega
theorem ord_lays (blk off size:Nat)(w:World):CmpLays Tryz.prog 108 #[] encP 3 cmpP blk off size w:=fun _ _ _ _ x y=>ord_calls x y _
theorem enters108:∀args w,(callFunc 108 args).run Tryz.prog w=.ok (.enter 108 args) w:=enters_of Tryz.func108 (by kernel_rfl) rfl
theorem sortP_calls (blk off cap:Nat)(d:Array (Int×Int×Int))(w:World)(hH:HoldsK encP 3 w blk off d)(hblk:blk<w.heap.size)(hsz:d.size<4611686018427387904) :
  Calls Tryz.prog 107 #[.slice (some ⟨blk,off,none⟩) d.size cap,.func (.func 108) #[] #[]] w fun e w'=>e=.returned (.tuple #[])/\∃n os,w'=sortWorldK encP 3 w blk off n (pdq (ltOf cmpP) d 0 d.size (Lib.bitLen d.size) true true) os :=
 AnyQ.slices_SortFunc_eq Tryz.sortP 3 Tryz.isAgg124 Tryz.sizeOf124 encP (fun _=>rfl) (fun x v hv=>by simp[encP] at hv; rcases hv with rfl | rfl | rfl<;>rfl) cmpP ordP_swo 108 #[] blk off cap d w enters108 (ord_lays blk off d.size w) hH hblk hsz
end
section
open Go.RowKit Go.Sort
open Go.Proofs (Tryz.prog)
section
variable [Start]{lim:Nat}{m:Mp}{h:Hp}{w w1:World}
theorem row_cells {m0:Mp}{p:Pl}{cs vs:List Value}(hC:CellsR m0 w p cs)(ho:p.own=true)(hN:vs.length<=cs.length)(hint:∀j,j<vs.length->∃n,vs.getD j undef=.int .i64 n)
  (hin:∀j,j<vs.length->w1.cell? ⟨p.c,p.base+j,none⟩=some (vs.getD j undef))(hout:∀j,vs.length<=j->w1.cell? ⟨p.c,p.base+j,none⟩=w.cell? ⟨p.c,p.base+j,none⟩)(hf:∀a,w1.frozen? a=w.frozen? a):CellsR m0 w1 p (vs++cs.drop vs.length):=by
 obtain⟨c1,c2⟩:=hC;obtain⟨c3,c4⟩:=c2 ho;have hl:(vs++cs.drop vs.length).length=cs.length:=by simp; omega
 refine⟨fun i hi=>?_,fun _=>⟨by omega,fun i hi=>⟨?_,?_⟩⟩⟩
 ·rw[hl] at hi
  by_cases h1:i<vs.length
  ·have e:(vs++cs.drop vs.length).getD i undef=vs.getD i undef:=by rw[List.getD_eq_getElem?_getD,List.getD_eq_getElem?_getD,List.getElem?_append_left h1]
   rw[e];obtain⟨n,hn⟩:=hint i h1;exact⟨_,hin i h1,by rw[hn]; exact .int _ _⟩
  ·have e:(vs++cs.drop vs.length).getD i undef=cs.getD i undef:=by
    rw[List.getD_eq_getElem?_getD,List.getD_eq_getElem?_getD,List.getElem?_append_right (by omega),List.getElem?_drop,show vs.length+(i-vs.length)=i by omega]
   rw[e,hout i (by omega)];exact c1 i hi
 ·by_cases h1:i<vs.length
  ·exact⟨_,hin i h1⟩
  ·rw[hout i (by omega)];exact(c4 i hi).1
 ·rw[hf];exact(c4 i hi).2
theorem row_step (H:HR m h w){b:Nat}{p:Pl}{cs vs:List Value}(hp:m b=some p)(hb:h[b]?=some (.cells true cs))(hN:vs.length<=cs.length)(hint:∀j,j<vs.length->∃n,vs.getD j undef=.int .i64 n)
  (hs:w1.heap.size=w.heap.size)(hk:∀c,c≠p.c->w1.heap[c]?=w.heap[c]?)(h1:w1.os=w.os)(h2:w1.tape=w.tape)(h3:w1.output=w.output)
  (hin:∀j,j<vs.length->w1.cell? ⟨p.c,p.base+j,none⟩=some (vs.getD j undef))(hout:∀j,vs.length<=j->w1.cell? ⟨p.c,p.base+j,none⟩=w.cell? ⟨p.c,p.base+j,none⟩)(hf:∀a,w1.frozen? a=w.frozen? a)(os:Array Obj) :
  HR m (h.set b (.cells true (vs++cs.drop vs.length))) (grow w1 os)/\Step lim m h w m (h.set b (.cells true (vs++cs.drop vs.length))) (grow w1 os):=by
 obtain⟨ho,hC⟩:=H.blk b p _ hp hb;have ho':p.own=true:=ho.symm;obtain⟨q1,q2⟩:=write_step (lim:=lim) (k':=.cells true (vs++cs.drop vs.length)) H hp hb (by simp) ho' hs hk h1 h2 h3 ⟨ho,row_cells hC ho' hN hint hin hout hf⟩ fun _ l _ _ hB=>⟨hB.1,row_cells hB.2 ho' hN hint hin hout hf⟩;obtain⟨q3,q4⟩:=below_step (lim:=lim) (w':=grow w1 os) q1 ⟨rfl,rfl,rfl,by simp[grow],fun k hk=>heap_grow_old w1 os hk⟩;exact⟨q3,q2.trans q4⟩
theorem row_none {α:Type}[Inhabited α](H:HR m h w)(enc:α->Value)(n c o:Nat)(os:Array Obj):HR m h (grow (putRow enc (Sort.ahead w n) c o #[]) os)/\Step lim m h w m h (grow (putRow enc (Sort.ahead w n) c o #[]) os):=by
 have e:putRow enc (Sort.ahead w n) c o #[]=Sort.ahead w n:=mapBlock_id _ _ _ fun cs e fr _=>by
  apply Array.ext_getElem?;intro k;simp only[putCells,Array.getElem?_mapIdx];cases cs[k]? with
  | none=>rfl
  | some x =>
   rw[Option.map_some,if_neg (by first | (simp; done) | (simp; omega))]
 rw[e];exact below_step H ⟨rfl,rfl,rfl,by simp[grow,Sort.ahead],fun k hk=>heap_grow_old (Sort.ahead w n) os hk⟩
end
def intsOf:List Value->Option (List Int)
 | []=>some []
 | .int .i64 n::l=>(intsOf l).map (n::·)
 | _=>none
theorem intsOf_ints:∀xs,intsOf (ints xs)=some xs
 | []=>rfl
 | x::xs=>by
  show(intsOf (ints xs)).map (x::·)=_;rw[intsOf_ints xs];rfl
theorem intsOf_inv:∀ {cs:List Value} {xs:List Int},intsOf cs=some xs->cs=ints xs
 | [],xs,h=>by cases h; rfl
 | .int .i64 n::l,xs,h=>by
  have h:(intsOf l).map (n::·)=some xs:=h;obtain⟨ys,hy,rfl⟩:=Option.map_eq_some_iff.1 h;rw[intsOf_inv hy];rfl
def srtI (l:List Int):List Int:=l.mergeSort fun x y=>decide (x<=y)
theorem srtI_len (l:List Int):(srtI l).length=l.length:=List.length_mergeSort l
theorem ints_app (a b:List Int):ints (a++b)=ints a++ints b:=by simp[ints]
theorem ints_drop (xs:List Int)(n:Nat):(ints xs).drop n=ints (xs.drop n):=by simp[ints,List.map_drop]
theorem ints_getD {xs:List Int}{j:Nat}(h:j<xs.length):(ints xs).getD j undef=.int .i64 (xs.getD j 0):=by
 rw[List.getD_eq_getElem?_getD,ints_get h];rfl
theorem enters181:∀args w,(callFunc 181 args).run Tryz.prog w=.ok (.enter 181 args) w:=Go.Proofs.enters_of Go.Proofs.Tryz.func181 (by kernel_rfl) rfl
section
variable [S:Start]
theorem fn_sortI {lim b n:Nat}{xs:List Int}{h:Hp}(hb:h[b]?=some (.cells true (ints xs)))(hn:n<=xs.length)(hx:n<1000000) :
  FnOk Tryz.prog lim 181 [.slice (some ⟨b,0,none⟩) n 1] h undef (h.set b (.cells true (ints (srtI (xs.take n)++xs.drop n)))):=by
 intro m w args' H hl hL;obtain⟨y,l,e,hy,hl2⟩:=hL.cases_cons;obtain rfl:=hl2.cases_nil;obtain⟨args'⟩:=args';obtain rfl:args'=[y]:=e;refine⟨enters181 _,callsIn_wide.2 ?_⟩;cases hy with
 | sl hp hll hc =>
  rename_i cap p;obtain⟨ho,hC⟩:=H.blk b p _ hp hb;obtain⟨c3,c4⟩:=hC.2 ho.symm;rw[ints_len] at c3
  have cell:∀j,j<xs.length->w.cell? ⟨p.c,p.base+0+j,none⟩=some (.int .i64 (xs.getD j 0))/\w.frozen? ⟨p.c,p.base+0+j,none⟩=false:=fun j hj=>by
   obtain⟨v',q1,q2⟩:=hC.1 j (by rw[ints_len]; exact hj);have e:(ints xs).getD j undef=.int .i64 (xs.getD j 0):=by rw[List.getD_eq_getElem?_getD,ints_get hj]; rfl
   rw[e] at q2;have:v'=.int .i64 (xs.getD j 0):=by cases q2; rfl
   subst this;exact⟨q1,(c4 j (by omega)).2⟩
  have tl:(xs.take n).length=n:=by rw[List.length_take]; omega
  have bang:∀(l:List Int) j,j<l.length->l.toArray[j]! =l.getD j 0:=fun l j hj=>by
   rw[getElem!_pos _ j (by simpa using hj),List.getD_eq_getElem?_getD,List.getElem?_eq_getElem hj];simp
  have hH:Holds (Value.int .i64) w p.c (p.base+0) (xs.take n).toArray:=fun j hj=>by
   have hj':j<n:=by simpa[tl] using hj
   obtain⟨q1,q2⟩:=cell j (by omega);rw[bang _ j (by rw[tl]; exact hj')];have:(xs.take n).getD j 0=xs.getD j 0:=by rw[List.getD_eq_getElem?_getD,List.getD_eq_getElem?_getD,List.getElem?_take_of_lt hj']
   rw[this];exact⟨q1,q2⟩
  have con:=Go.Proofs.AnyM.slices_Sort_int Go.Proofs.Tryz.sortJ p.c (p.base+0) cap (xs.take n) w hH (H.dom b p hp).2 (by rw[tl]; omega);rw[tl] at con;refine Calls.mono con ?_;rintro e w' ⟨rfl,q,os,rfl⟩;have sl:(srtI (xs.take n)).length=n:=by rw[srtI_len,tl]
  have vl:(ints (srtI (xs.take n))).length=n:=by rw[ints_len,sl]
  have hA:Holds (Value.int .i64) (Sort.ahead w q) p.c (p.base+0) (xs.take n).toArray:=hH;have e1:ints (srtI (xs.take n)++xs.drop n)=ints (srtI (xs.take n))++(ints xs).drop (ints (srtI (xs.take n))).length:=by rw[vl,ints_app,ints_drop]
  rw[e1]
  obtain⟨q1,q2⟩:=row_step (lim:=lim) (w1:=putRow (Value.int .i64) (Sort.ahead w q) p.c (p.base+0) (srtI (xs.take n)).toArray) H hp hb (vs:=ints (srtI (xs.take n))) (by rw[vl,ints_len]; exact hn)
   (fun j hj=>⟨_,by rw[List.getD_eq_getElem?_getD,ints_get (by rw[ints_len] at hj; exact hj)]; rfl⟩)
   (by simp[Sort.ahead]) (fun c hc=>by simp[putRow,mapBlock,Array.getElem?_modify,Sort.ahead,Ne.symm hc]) rfl rfl rfl
   (fun j hj=>by
    rw[ints_len] at hj;have:=cell?_putRow (Value.int .i64) (Sort.ahead w q) p.c (p.base+0) (xs.take n).toArray (srtI (xs.take n)).toArray hA (by simp[srtI_len]) j (by simpa using hj);rw[show p.base+j=p.base+0+j by omega,this,bang _ j hj,ints_getD hj])
   (fun j hj=>cell?_putRow_other _ _ _ _ _ _ (.inr (.inr (by rw[vl] at hj; simp[sl]; omega))))
   (fun a=>by rw[frozen?_putRow]; rfl) os
  exact⟨_,m,rfl,.undef,q1,q2⟩
 | sl0 hp =>
  rename_i x p;have con:=Go.Proofs.AnyM.slices_Sort_int Go.Proofs.Tryz.sortJ p.c x 0 [] w (fun j hj=>absurd hj (by simp)) (H.dom b p hp).2 (by simp);simp only[List.mergeSort_nil] at con;refine Calls.mono con ?_;rintro e w' ⟨rfl,q,os,rfl⟩;obtain⟨q1,q2⟩:=row_none (lim:=lim) H (Value.int .i64) q p.c x os
  have e1:h.set b (.cells true (ints (srtI (xs.take 0)++xs.drop 0)))=h:=by
   rw[show srtI (xs.take 0)++xs.drop 0=xs by simp[srtI]];obtain⟨h1,h2⟩:=List.getElem?_eq_some_iff.1 hb;rw[<- h2];exact List.set_getElem_self _
  rw[e1];exact⟨_,m,rfl,.undef,q1,q2⟩
end
abbrev P3:=Int×Int×Int
theorem encP_len (x:P3):(encP x).length=3:=rfl
theorem encs_len (l:List P3):(l.flatMap encP).length=l.length*3:=by
 induction l with
 | nil=>rfl
 | cons x l ih=>rw[List.flatMap_cons,List.length_append,ih,encP_len,List.length_cons]; omega
theorem encs_get:∀(l:List P3) (i k:Nat),k<3->i<l.length->(l.flatMap encP)[i*3+k]?=(encP (l.getD i default))[k]?
 | x::l,0,k,hk,_=>by
  rw[List.flatMap_cons,Nat.zero_mul,Nat.zero_add,List.getElem?_append_left (by rw[encP_len]; exact hk)];rfl
 | x::l,i+1,k,hk,hi=>by
  rw[List.flatMap_cons,List.getElem?_append_right (by rw[encP_len]; omega),encP_len,show(i+1)*3+k-3=i*3+k by omega,encs_get l i k hk (by simpa using hi)];rfl
theorem encs_int (l:List P3){j:Nat}(hj:j<(l.flatMap encP).length):∃n,(l.flatMap encP)[j]?=some (.int .i64 n):=by
 rw[encs_len] at hj;have:=encs_get l (j/3) (j%3) (by omega) (by omega);rw[show j/3*3+j%3=j by omega] at this;rw[this];generalize l.getD (j/3) default=x;have:j%3=0\/j%3=1\/j%3=2:=by omega
 rcases this with h | h | h<;>(rw[h]; exact⟨_,rfl⟩)
theorem bangL {α:Type}[Inhabited α](l:List α)(j:Nat)(hj:j<l.length):l.toArray[j]! =l.getD j default:=by
 rw[getElem!_pos _ j (by simpa using hj),List.getD_eq_getElem?_getD,List.getElem?_eq_getElem hj];simp
theorem flatK_get (l:List P3){j:Nat}(hj:j<l.length*3):some (Go.Sort.flatK encP 3 l.toArray)[j]! =(l.flatMap encP)[j]?:=by
 have:=encs_get l (j/3) (j%3) (by omega) (by omega);rw[show j/3*3+j%3=j by omega] at this;rw[this,get_flatK _ _ _ _ (by simpa using hj),bangL l _ (by omega)];generalize l.getD (j/3) default=x;have:j%3=0\/j%3=1\/j%3=2:=by omega
 rcases this with h | h | h<;>(rw[h]; rfl)
def prtsOf:List Value->Option (List P3)
 | []=>some []
 | .int .i64 a::.int .i64 b::.int .i64 c::l=>(prtsOf l).map ((a,b,c)::·)
 | _=>none
theorem prtsOf_encs:∀l,prtsOf (l.flatMap encP)=some l
 | []=>rfl
 | x::l=>by
  show(prtsOf (l.flatMap encP)).map (x::·)=_;rw[prtsOf_encs l];rfl
theorem prtsOf_inv:∀ {cs:List Value} {l:List P3},prtsOf cs=some l->cs=l.flatMap encP
 | [],l,h=>by cases h; rfl
 | .int .i64 a::.int .i64 b::.int .i64 c::cs,l,h=>by
  have h:(prtsOf cs).map ((a,b,c)::·)=some l:=h;obtain⟨ys,hy,rfl⟩:=Option.map_eq_some_iff.1 h;rw[prtsOf_inv hy];rfl
noncomputable def srtP (l:List P3):List P3:=(pdq (Go.Proofs.ltOf cmpP) l.toArray 0 l.toArray.size (Lib.bitLen l.toArray.size) true true).toList
theorem srtP_perm (l:List P3):(srtP l).Perm l:=by
 have h:=(pdq_sorts (Go.Proofs.ltOf cmpP) ordP_swo l.toArray 0 l.toArray.size (Lib.bitLen l.toArray.size) true true (Nat.zero_le _) (Nat.le_refl _) (Or.inl rfl)).1;have:=h.2.2;have e:=h.1;unfold srtP;generalize pdq (Go.Proofs.ltOf cmpP) l.toArray 0 l.toArray.size (Lib.bitLen l.toArray.size) true true=d at this e;have e1:d.extract 0 l.toArray.size=d:=by rw[<- e]; simp
 rw[e1] at this;simpa using this
theorem srtP_len (l:List P3):(srtP l).length=l.length:=(srtP_perm l).length_eq
theorem enters107:∀args w,(callFunc 107 args).run Tryz.prog w=.ok (.enter 107 args) w:=Go.Proofs.enters_of Go.Proofs.Tryz.func107 (by kernel_rfl) rfl
section
variable [S:Start]
theorem fn_sortP {lim b:Nat}{l:List P3}{rest:List Value}{h:Hp}(hb:h[b]?=some (.cells true (l.flatMap encP++rest)))(hx:l.length<1000000) :
  FnOk Tryz.prog lim 107 [.slice (some ⟨b,0,none⟩) l.length 3,.func (.func 108) #[] #[]] h undef (h.set b (.cells true ((srtP l).flatMap encP++rest))):=by
 intro m w args' H hl hL;obtain⟨y,l1,e,hy,hl2⟩:=hL.cases_cons;obtain⟨z,l2,rfl,hz,hl3⟩:=hl2.cases_cons;obtain rfl:=hl3.cases_nil;obtain⟨args'⟩:=args';obtain rfl:args'=[y,z]:=e
 obtain rfl:z=.func (.func 108) #[] #[]:=by
  cases hz with
  | fn f na nb ha hb =>
   rename_i a' b';rw[Array.eq_empty_of_size_eq_zero na.symm,Array.eq_empty_of_size_eq_zero nb.symm]
 refine⟨enters107 _,callsIn_wide.2 ?_⟩;obtain⟨n,hn⟩:∃n,l.length=n:=⟨_,rfl⟩;rw[hn] at hy;cases hy with
 | sl hp hll hc =>
  rename_i cap p;obtain⟨ho,hC⟩:=H.blk b p _ hp hb;obtain⟨c3,c4⟩:=hC.2 ho.symm;have fl:(l.flatMap encP).length=n*3:=by rw[encs_len,hn]
  have cl:(l.flatMap encP++rest).length=n*3+rest.length:=by rw[List.length_append,fl]
  have hH:Go.Sort.HoldsK encP 3 w p.c (p.base+0) l.toArray:=fun j hj=>by
   have hj':j<n*3:=by simpa[hn] using hj
   have e1:=flatK_get l (j:=j) (by rw[hn]; exact hj');obtain⟨x,ex⟩:=encs_int l (j:=j) (by omega);obtain⟨v',q1,q2⟩:=hC.1 j (by omega);rw[List.getD_eq_getElem?_getD,List.getElem?_append_left (by omega),ex] at q2;have:v'=.int .i64 x:=by cases q2; rfl
   subst this;rw[ex] at e1
   injection e1 with e1
   show w.cell? _=some (id _)/\_;rw[e1];exact⟨q1,(c4 j (by omega)).2⟩
  have sz:l.toArray.size=n:=by simpa using hn
  have con:=sortP_calls p.c (p.base+0) cap l.toArray w hH (H.dom b p hp).2 (by omega);rw[sz] at con;refine Calls.mono con ?_;rintro e w' ⟨rfl,q,os,rfl⟩
  have e0:(srtP l).toArray=pdq (Go.Proofs.ltOf cmpP) l.toArray 0 n (Lib.bitLen n) true true:=by
   unfold srtP;rw[sz]
  rw[<- e0];have sl:(srtP l).length=n:=by rw[srtP_len,hn]
  have vl:((srtP l).flatMap encP).length=n*3:=by rw[encs_len,sl]
  have hA:Holds id (Sort.ahead w q) p.c (p.base+0) (Go.Sort.flatK encP 3 l.toArray):=hH;have e1:(l.flatMap encP++rest).drop ((srtP l).flatMap encP).length=rest:=by rw[vl,<- fl,List.drop_left]
  have R:=row_step (lim:=lim) (w1:=putRow id (Sort.ahead w q) p.c (p.base+0) (Go.Sort.flatK encP 3 (srtP l).toArray)) H hp hb (vs:=(srtP l).flatMap encP) (by rw[vl,cl]; omega)
   (fun j hj=>by
    obtain⟨x,ex⟩:=encs_int _ hj;exact⟨x,by rw[List.getD_eq_getElem?_getD,ex]; rfl⟩)
   (by simp[Sort.ahead]) (fun c hc=>by simp[putRow,mapBlock,Array.getElem?_modify,Sort.ahead,Ne.symm hc]) rfl rfl rfl
   (fun j hj=>by
    have hj':j<n*3:=by rw[vl] at hj; exact hj
    have:=cell?_putRow id (Sort.ahead w q) p.c (p.base+0) (Go.Sort.flatK encP 3 l.toArray) (Go.Sort.flatK encP 3 (srtP l).toArray) hA (by simp[srtP_len]) j (by simp[sl]; omega);rw[show p.base+j=p.base+0+j by omega,this];show some (Go.Sort.flatK encP 3 (srtP l).toArray)[j]! =_;rw[flatK_get _ (by rw[sl]; exact hj')];obtain⟨x,ex⟩:=encs_int _ hj;rw[List.getD_eq_getElem?_getD,ex];rfl)
   (fun j hj=>cell?_putRow_other _ _ _ _ _ _ (.inr (.inr (by rw[vl] at hj; simp[sl]; omega))))
   (fun a=>by rw[frozen?_putRow]; rfl) os
  rw[e1] at R;exact⟨_,m,rfl,.undef,R.1,R.2⟩
 | sl0 hp =>
  rename_i x p;have con:=sortP_calls p.c x 0 #[] w (fun j hj=>absurd hj (by simp)) (H.dom b p hp).2 (by simp);refine Calls.mono con ?_;rintro e w' ⟨rfl,q,os,rfl⟩
  have e0:Go.Sort.flatK encP 3 (pdq (Go.Proofs.ltOf cmpP) #[] 0 (#[]:Array P3).size (Lib.bitLen (#[]:Array P3).size) true true)=#[]:=by
   have h:=(pdq_sorts (Go.Proofs.ltOf cmpP) ordP_swo #[] 0 0 (Lib.bitLen 0) true true (Nat.zero_le _) (Nat.le_refl _) (Or.inl rfl)).1.1;apply Array.eq_empty_of_size_eq_zero;rw[size_flatK];show(pdq (Go.Proofs.ltOf cmpP) #[] 0 0 (Lib.bitLen 0) true true).size*3=0;rw[h];rfl
  unfold Go.Proofs.sortWorldK putRowK;rw[e0];obtain⟨q1,q2⟩:=row_none (lim:=lim) H (id:Value->Value) q p.c x os
  have e1:h.set b (.cells true ((srtP l).flatMap encP++rest))=h:=by
   have h0:l=[]:=List.eq_nil_of_length_eq_zero hn;have:srtP l=[]:=List.eq_nil_of_length_eq_zero (by rw[srtP_len,h0]; rfl);rw[this];rw[h0] at hb;obtain⟨h1,h2⟩:=List.getElem?_eq_some_iff.1 hb;rw[<- h2];exact List.set_getElem_self _
  rw[e1];exact⟨_,m,rfl,.undef,q1,q2⟩
theorem fn_sortI_nil {lim:Nat}{h:Hp}:FnOk Tryz.prog lim 181 [.slice none 0 0] h undef h:=by
 intro m w args' H hl hL;obtain⟨y,l,e,hy,hl2⟩:=hL.cases_cons;obtain rfl:=hl2.cases_nil;obtain⟨args'⟩:=args';obtain rfl:args'=[y]:=e;cases hy with
 | snil =>
  refine⟨enters181 _,callsIn_wide.2 (Calls.mono (Go.Proofs.AnyM.slices_Sort_int_none Go.Proofs.Tryz.sortJ none 0 w) ?_)⟩;rintro e w' ⟨rfl,rfl⟩;exact⟨_,m,rfl,.undef,H,Step.refl _ _ _ _⟩
theorem fn_sortP_nil {lim:Nat}{h:Hp}:FnOk Tryz.prog lim 107 [.slice none 0 0,.func (.func 108) #[] #[]] h undef h:=by
 intro m w args' H hl hL;obtain⟨y,l1,e,hy,hl2⟩:=hL.cases_cons;obtain⟨z,l2,rfl,hz,hl3⟩:=hl2.cases_cons;obtain rfl:=hl3.cases_nil;obtain⟨args'⟩:=args';obtain rfl:args'=[y,z]:=e;cases hy with
 | snil =>
  refine⟨enters107 _,callsIn_wide.2 (Calls.mono (Go.Proofs.AnyF.slices_SortFunc_none Go.Proofs.Tryz.sortP none 0 z w) ?_)⟩;rintro e w' ⟨rfl,rfl⟩;exact⟨_,m,rfl,.undef,H,Step.refl _ _ _ _⟩
end
end
section
open Go.RowKit
open Go.Proofs (Tryz.prog Tryz.bits_Len Tryz.stringslite_Index Tryz.strings_Count_one Tryz.utf8_decodeRuneInStringSlow Tryz.strconv_ParseInt_10_at64_ok Tryz.strconv_ParseInt_10_at64_syntax Tryz.strconv_ParseInt_10_at64_range Tryz.strconv_Atoi_ok Tryz.strconv_Atoi_syntax Tryz.strconv_Atoi_range)
set_option maxRecDepth 100000
structure StartOk (W:World):Prop where
 max:∃m,W.cell? ⟨0,0,none⟩=some (.int .i64 m)
 tabs:Lib.Utf8Tabs 1 2 W
 dom:4<W.heap.size
 es:∃ev,W.cell? ⟨3,0,none⟩=some ev/\(ev=.nilIface\/∃te pe,ev=.iface te pe)
 er:∃ev,W.cell? ⟨4,0,none⟩=some ev/\(ev=.nilIface\/∃te pe,ev=.iface te pe)
section
variable [S:Start]
theorem gl_cell {w:World}(G:Gl (fun _=>none) w){c o:Nat}(hc:c<S.w.heap.size):w.cell? ⟨c,o,none⟩=S.w.cell? ⟨c,o,none⟩:=by
 simp[World.cell?,G.2.1 c hc]
theorem enters_bits:Go.Proofs.Enters Tryz.prog 167:=Go.Proofs.enters_of Go.Proofs.Tryz.func167 (by kernel_rfl) rfl
theorem fn_bits {lim:Nat}{n:Int}{h:Hp}(h0:0<=n)(h1:n<=18446744073709551615):FnOk Tryz.prog lim 167 [.int .u64 n] h (.int .i64 (Lib.bitLen n.toNat)) h :=
 fn_flat (fun m=>.int _ _) (fun args' w e _=>by
  obtain rfl:args'=#[.int .u64 n]:=by
   obtain⟨l⟩:=args';exact congrArg _ e.symm
  exact⟨enters_bits _,(Tryz.bits_Len n w h0 h1).mono fun e' w' ⟨h2,h3⟩=>⟨h2,by rw[h3]; exact Below.refl _ _⟩⟩) (fun x hx=>.inl ⟨_,_,List.mem_singleton.1 hx⟩)
theorem enters_index:Go.Proofs.Enters Tryz.prog 162:=Go.Proofs.enters_of Go.Proofs.Tryz.func162 (by kernel_rfl) rfl
theorem enters_dec:Go.Proofs.Enters Tryz.prog 266:=Go.Proofs.enters_of Go.Proofs.Tryz.func266 (by kernel_rfl) rfl
theorem fn_index (K:StartOk S.w){lim:Nat}{s p:ByteArray}{h:Hp}(hs:s.size<4294967281):FnOk Tryz.prog lim 162 [.string s,.string p] h (.int .i64 (Lib.index s.data.toList p.data.toList)) h :=
 fn_flat (fun m=>.int _ _) (fun args' w e G=>by
  obtain rfl:args'=#[.string s,.string p]:=by
   obtain⟨l⟩:=args';exact congrArg _ e.symm
  obtain⟨m,hm⟩:=K.max;have hd:=K.dom
  exact⟨enters_index _,(Tryz.stringslite_Index s p m w hs (by rw[gl_cell G (by omega)]; exact hm)).mono fun e' w' ⟨h2,h3⟩=>⟨h2,by rw[h3]; exact Below.refl _ _⟩⟩) (fun x hx=>by
   simp only[List.mem_cons,List.not_mem_nil,or_false] at hx;rcases hx with rfl | rfl<;>exact .inr ⟨_,rfl⟩)
theorem fn_dec (K:StartOk S.w){lim:Nat}{s:ByteArray}{h:Hp}:FnOk Tryz.prog lim 266 [.string s] h (.tuple #[.int .i32 (Lib.decodeGo s).1,.int .i64 (Lib.decodeGo s).2]) h :=
 fn_flat (fun m=>LR.tup (.cons (.int _ _) (.cons (.int _ _) .nil))) (fun args' w e G=>by
  obtain rfl:args'=#[.string s]:=by
   obtain⟨l⟩:=args';exact congrArg _ e.symm
  have hd:=K.dom;exact⟨enters_dec _,Tryz.utf8_decodeRuneInStringSlow s w ⟨fun c hc=>by rw[gl_cell G (by omega)]; exact K.tabs.1 c hc,fun i hi=>by rw[gl_cell G (by omega),gl_cell G (by omega)]; exact K.tabs.2 i hi⟩⟩) (fun x hx=>.inr ⟨_,List.mem_singleton.1 hx⟩)
theorem fn_err {lim:Nat}{g:FuncId}{args:List Value}{n:Int}{T:TypeId}{h:Hp}
  (hc:∀(args':Array Value) (w:World),args=args'.toList->Gl (fun _=>none) w->(∀W,(callFunc g args').run Tryz.prog W=.ok (.enter g args') W)/\Calls Tryz.prog g args' w fun e w'=>∃N,e=.returned (.tuple #[.int .i64 n,.iface T (.pointer (some ⟨N,0,none⟩))])/\w.heap.size<=N/\N<w'.heap.size/\Below w.heap.size w w')
  (ha:∀x∈args,(∃k n,x=.int k n)\/∃s,x=.string s):FnOk Tryz.prog lim g args h (.tuple #[.int .i64 n,.iface T (.pointer (some ⟨h.length,0,none⟩))]) (h++[.dead]):=by
 intro m w args' H hl hL;have e:=same_args hL ha;obtain⟨q1,q2⟩:=hc args' w e ⟨H.gl.1,H.gl.2.1,fun b p hb=>by cases hb⟩;refine⟨q1,callsIn_wide.2 (q2.mono fun e' w' ⟨N,he,n1,n2,B⟩=>?_)⟩;obtain⟨s1,s2⟩:=below_new (lim:=lim) (k:=.dead) (p:=⟨N,0,0,false⟩) H hl B n1 n2 trivial (fun hf=>by cases hf);refine⟨_,ins m h.length ⟨N,0,0,false⟩,he,LR.tup (.cons (.int _ _) (.cons (.iface T ?_) .nil)),s1,s2⟩;exact VR.ptr (p:=⟨N,0,0,false⟩) (ins_self _ _ _)
theorem enters_parse:Go.Proofs.Enters Tryz.prog 274:=Go.Proofs.enters_of Go.Proofs.Tryz.func274 (by kernel_rfl) rfl
theorem enters_atoi:Go.Proofs.Enters Tryz.prog 260:=Go.Proofs.enters_of Go.Proofs.Tryz.func260 (by kernel_rfl) rfl
theorem fn_parse_ok {lim:Nat}{s:ByteArray}{h:Hp}(hs:s.size<=281474976710656){v:Int}(hv:Lib.parseIntB 64 s.data.toList=.ok v):FnOk Tryz.prog lim 274 [.string s,.int .i64 10,.int .i64 64] h (.tuple #[.int .i64 v,.nilIface]) h :=
 fn_flat (fun m=>LR.tup (.cons (.int _ _) (.cons .inil .nil))) (fun args' w e G=>by
  obtain rfl:args'=#[.string s,.int .i64 10,.int .i64 64]:=by
   obtain⟨l⟩:=args';exact congrArg _ e.symm
  refine⟨enters_parse _,(Tryz.strconv_ParseInt_10_at64_ok s (by omega) v hv w).mono fun e' w' ⟨h2,h3⟩=>⟨h2,?_⟩⟩;rcases h3 with rfl | ⟨t,rfl⟩
  ·exact Below.refl _ _
  ·exact Lib.bytesWorld_below _ _ _) (fun x hx=>by
   simp only[List.mem_cons,List.not_mem_nil,or_false] at hx;rcases hx with rfl | rfl | rfl
   ·exact .inr ⟨_,rfl⟩
   ·exact .inl ⟨_,_,rfl⟩
   ·exact .inl ⟨_,_,rfl⟩)
theorem fn_parse_syntax (K:StartOk S.w){lim:Nat}{s:ByteArray}{h:Hp}(hs:s.size<=281474976710656)(hv:Lib.parseIntB 64 s.data.toList=Lib.parseIntB 64 []):FnOk Tryz.prog lim 274 [.string s,.int .i64 10,.int .i64 64] h (.tuple #[.int .i64 (0),.iface 407 (.pointer (some ⟨h.length,0,none⟩))]) (h++[.dead]) :=
 fn_err (fun args' w e G=>by
  obtain rfl:args'=#[.string s,.int .i64 10,.int .i64 64]:=by
   obtain⟨l⟩:=args';exact congrArg _ e.symm
  obtain⟨ev,h1,h2⟩:=K.es;have hd:=K.dom
  exact⟨enters_parse _,(Tryz.strconv_ParseInt_10_at64_syntax s hs hv ev w (by rw[gl_cell G (by omega)]; exact h1) h2).mono fun e' w' ⟨N,h3,h4,h5,h6⟩=>⟨N,h3,h4,(Array.getElem?_eq_some_iff.1 h5).1,h6⟩⟩) (fun x hx=>by
   simp only[List.mem_cons,List.not_mem_nil,or_false] at hx;rcases hx with rfl | rfl | rfl
   ·exact .inr ⟨_,rfl⟩
   ·exact .inl ⟨_,_,rfl⟩
   ·exact .inl ⟨_,_,rfl⟩)
theorem fn_parse_range (K:StartOk S.w){lim:Nat}{s:ByteArray}{h:Hp}(hs:s.size<=281474976710656)(hv:Lib.parseIntB 64 s.data.toList=.range):FnOk Tryz.prog lim 274 [.string s,.int .i64 10,.int .i64 64] h (.tuple #[.int .i64 (Lib.intSat 64 s.data.toList),.iface 407 (.pointer (some ⟨h.length,0,none⟩))]) (h++[.dead]) :=
 fn_err (fun args' w e G=>by
  obtain rfl:args'=#[.string s,.int .i64 10,.int .i64 64]:=by
   obtain⟨l⟩:=args';exact congrArg _ e.symm
  obtain⟨ev,h1,h2⟩:=K.er;have hd:=K.dom
  exact⟨enters_parse _,(Tryz.strconv_ParseInt_10_at64_range s hs hv ev w (by rw[gl_cell G (by omega)]; exact h1) h2).mono fun e' w' ⟨N,h3,h4,h5,h6⟩=>⟨N,h3,h4,(Array.getElem?_eq_some_iff.1 h5).1,h6⟩⟩) (fun x hx=>by
   simp only[List.mem_cons,List.not_mem_nil,or_false] at hx;rcases hx with rfl | rfl | rfl
   ·exact .inr ⟨_,rfl⟩
   ·exact .inl ⟨_,_,rfl⟩
   ·exact .inl ⟨_,_,rfl⟩)
theorem fn_atoi_ok {lim:Nat}{s:ByteArray}{h:Hp}(hs:s.size<=281474976710656){v:Int}(hv:Lib.atoiAll s.data.toList=.ok v):FnOk Tryz.prog lim 260 [.string s] h (.tuple #[.int .i64 v,.nilIface]) h :=
 fn_flat (fun m=>LR.tup (.cons (.int _ _) (.cons .inil .nil))) (fun args' w e G=>by
  obtain rfl:args'=#[.string s]:=by
   obtain⟨l⟩:=args';exact congrArg _ e.symm
  refine⟨enters_atoi _,(Tryz.strconv_Atoi_ok s (by omega) v hv w).mono fun e' w' ⟨h2,h3⟩=>⟨h2,?_⟩⟩;rcases h3 with rfl | ⟨t,rfl⟩
  ·exact Below.refl _ _
  ·exact Lib.bytesWorld_below _ _ _) (fun x hx=>.inr ⟨_,List.mem_singleton.1 hx⟩)
theorem fn_atoi_syntax (K:StartOk S.w){lim:Nat}{s:ByteArray}{h:Hp}(hs:s.size<=281474976710656)(hv:Lib.atoiAll s.data.toList=Lib.atoiAll []):FnOk Tryz.prog lim 260 [.string s] h (.tuple #[.int .i64 (0),.iface 407 (.pointer (some ⟨h.length,0,none⟩))]) (h++[.dead]) :=
 fn_err (fun args' w e G=>by
  obtain rfl:args'=#[.string s]:=by
   obtain⟨l⟩:=args';exact congrArg _ e.symm
  obtain⟨ev,h1,h2⟩:=K.es;have hd:=K.dom;exact⟨enters_atoi _,(Tryz.strconv_Atoi_syntax s hs hv ev w (by rw[gl_cell G (by omega)]; exact h1) h2).mono fun e' w' ⟨N,h3,h4,h5,h6⟩=>⟨N,h3,h4,(Array.getElem?_eq_some_iff.1 h5).1,h6⟩⟩) (fun x hx=>.inr ⟨_,List.mem_singleton.1 hx⟩)
theorem fn_atoi_range (K:StartOk S.w){lim:Nat}{s:ByteArray}{h:Hp}(hs:s.size<=281474976710656)(hv:Lib.atoiAll s.data.toList=.range):FnOk Tryz.prog lim 260 [.string s] h (.tuple #[.int .i64 (Lib.atoiSat s.data.toList),.iface 407 (.pointer (some ⟨h.length,0,none⟩))]) (h++[.dead]) :=
 fn_err (fun args' w e G=>by
  obtain rfl:args'=#[.string s]:=by
   obtain⟨l⟩:=args';exact congrArg _ e.symm
  obtain⟨ev,h1,h2⟩:=K.er;have hd:=K.dom;exact⟨enters_atoi _,(Tryz.strconv_Atoi_range s hs hv ev w (by rw[gl_cell G (by omega)]; exact h1) h2).mono fun e' w' ⟨N,h3,h4,h5,h6⟩=>⟨N,h3,h4,(Array.getElem?_eq_some_iff.1 h5).1,h6⟩⟩) (fun x hx=>.inr ⟨_,List.mem_singleton.1 hx⟩)
theorem enters_count:Go.Proofs.Enters Tryz.prog 164:=Go.Proofs.enters_of Go.Proofs.Tryz.func164 (by kernel_rfl) rfl
theorem fn_count {lim:Nat}{s:ByteArray}{c:UInt8}{h:Hp}:FnOk Tryz.prog lim 164 [.string s,.string ⟨#[c]⟩] h (.int .i64 (Lib.countByte s.data.toList c)) h :=
 fn_flat (fun m=>.int _ _) (fun args' w e G=>by
  obtain rfl:args'=#[.string s,.string ⟨#[c]⟩]:=by
   obtain⟨l⟩:=args';exact congrArg _ e.symm
  exact⟨enters_count _,(Tryz.strings_Count_one s c w).mono fun e' w' ⟨h2,h3⟩=>⟨h2,by rw[h3]; exact Below.refl _ _⟩⟩) (fun x hx=>by
   simp only[List.mem_cons,List.not_mem_nil,or_false] at hx;rcases hx with rfl | rfl<;>exact .inr ⟨_,rfl⟩)
end
end
section
open Go.RowKit Go.Proofs
set_option maxRecDepth 100000
def lowF (c:Int):Int:=if c>=65/\c<=90 then c+97-65 else c
theorem low_fn (x:Nat)(hx:x<=1114111)(W:World):Calls Tryz.prog 158 #[.int .i32 x] W fun e w'=>e=.returned (.int .i32 (lowF x))/\∃q,w'=W.drewN q:=by
 go_enter Tryz.func158, Tryz.ntmps158
 go_wp2
 all_goals go_ret
 ·refine⟨?_,0,rfl⟩;unfold lowF;rw[if_pos ⟨by omega,by omega⟩];rfl
 ·refine⟨?_,0,rfl⟩;unfold lowF;rw[if_neg (by omega)];rfl
 ·refine⟨?_,0,rfl⟩;unfold lowF;rw[if_neg (by omega)];rfl
theorem low_map (W:World):MapAtRunes Tryz.prog 158 #[] lowF W:=fun W' x hx _=>low_fn x hx W'
theorem low_rg (x:Nat)(hx:x<=1114111):0<=lowF x/\lowF x<=2147483647:=by
 unfold lowF;split<;>omega
theorem enters_low1:Enters Tryz.prog 158:=enters_of Tryz.func158 (by kernel_rfl) rfl
theorem enters_low:Enters Tryz.prog 98:=enters_of Tryz.func98 (by kernel_rfl) rfl
theorem low_calls (s:ByteArray)(W:World)(hs:s.size<35184372088832)(hT:Lib.Utf8Tabs 1 2 W):Calls Tryz.prog 98 #[.string s] W fun e w'=>e=.returned (.string ⟨(Lib.mapD lowF s.data.toList).toArray⟩)/\Below W.heap.size W w':=by
 go_enter Tryz.func98, Tryz.ntmps98
 go_wp2_with (go_at_call 157; refine(Tryz.strings_Map_runes 158 #[] enters_low1 lowF s _ hs (low_map _) low_rg hT).mono ?_; rintro e w' ⟨rfl,hb⟩)
 all_goals go_ret
 all_goals exact⟨rfl,hb⟩
section
variable [S:Start]
theorem fn_low (K:StartOk S.w){lim:Nat}{s:ByteArray}{h:Hp}(hs:s.size<35184372088832):FnOk Tryz.prog lim 98 [.string s] h (.string ⟨(Lib.mapD lowF s.data.toList).toArray⟩) h :=
 fn_flat (fun m=>.str _) (fun args' w e G=>by
  obtain rfl:args'=#[.string s]:=by
   obtain⟨l⟩:=args';exact congrArg _ e.symm
  have hd:=K.dom;exact⟨enters_low _,low_calls s w hs ⟨fun c hc=>by rw[gl_cell G (by omega)]; exact K.tabs.1 c hc,fun i hi=>by rw[gl_cell G (by omega),gl_cell G (by omega)]; exact K.tabs.2 i hi⟩⟩) (fun x hx=>.inr ⟨_,List.mem_singleton.1 hx⟩)
end
end
section
open Go.Proofs Go.Proofs.YthbopkpamlbjoaaGreatDoor Go.RowKit
set_option maxRecDepth 100000
theorem u8x:U8Extra Tryz.prog Tryz.lays260_ren:=⟨by kernel_rfl,by kernel_rfl,by kernel_rfl,by kernel_rfl,by kernel_rfl,by kernel_rfl,by kernel_rfl⟩
theorem trod_ifc {H:Type}{enc:TypeId×Value->H}{P:Program}{w:World}{base:Nat}{spare:Nat->Bool}{held:Bool}{fuel:Nat}{t:TypeId}{cs:List Value}{x:DataW H×List MemPlace}{ms:Array (String×TypeId)}(ht:P.underlying t=some (.interface ms))(h:DataW.trod enc P w base spare held fuel t cs=some x):∃v,cs=[v]/\(v=.nilIface\/∃te pe,v=.iface te pe):=by
 cases fuel with
 | zero=>simp[DataW.trod] at h
 | succ n =>
  unfold DataW.trod at h;rw[ht] at h;split at h<;>simp_all
theorem ifc_cell {P:Program}{W:World}{n:String}{d:DataW Unit}{g:Nat}{t:TypeId}{ms:Array (String×TypeId)}(h:Lib.VarReads P W n d)(hg:P.globalNamed n=some g)(ht:(P.globals[g]?).map (·.type)=some t)(hu:P.underlying t=some (.interface ms)):∃ev,W.cell? ⟨g,0,none⟩=some ev/\(ev=.nilIface\/∃te pe,ev=.iface te pe):=by
 obtain⟨g',t',cs,fuel,p,h1,h2,h3,h4⟩:=h;obtain rfl:=Option.some.inj (hg.symm.trans h1);obtain rfl:=Option.some.inj (ht.symm.trans h2);obtain⟨v,h5,h6⟩:=trod_ifc hu h4;refine⟨v,?_,h6⟩;have:=World.var?_cell h1 h3 0;rw[Array.eq_one_of_toList h5] at this;simpa using this
theorem dom_of {W:World}{g:Nat}(h:∃ev,W.cell? ⟨g,0,none⟩=some ev/\(ev=.nilIface\/∃te pe,ev=.iface te pe)):g<W.heap.size:=by
 obtain⟨ev,h,-⟩:=h;unfold World.cell? at h;cases hq:W.heap[g]? with
 | none=>simp[hq] at h
 | some o=>exact(Array.getElem?_eq_some_iff.1 hq).1
theorem start_ok {W:World}(hL:laidMetH Tryz.prog Rows.timerNeverUptoRow.laid W)(hS:W.ShapedOpen Tryz.prog):StartOk W:=by
 rw[MakeChecks.laidMetH_plain _ _ _ (by kernel_rfl)] at hL;obtain⟨ps,hv,hsz⟩:=hL;have rd:=Lib.LaidVars_reads hv;have r1:=rd "unicode/utf8.first" Rows.laid_unicode_utf8_first (by simp[Rows.timerNeverUptoRow]);have r2:=rd "unicode/utf8.acceptRanges" Rows.laid_unicode_utf8_acceptRanges (by simp[Rows.timerNeverUptoRow]);have r3:=rd "strconv.ErrSyntax" Rows.laid_strconv_ErrSyntax (by simp[Rows.timerNeverUptoRow]);have r4:=rd "strconv.ErrRange" Rows.laid_strconv_ErrRange (by simp[Rows.timerNeverUptoRow]);rw[show Rows.laid_unicode_utf8_first=Go.Pinned.utf8First from rfl,Pinned.utf8First_eq] at r1;rw[show Rows.laid_unicode_utf8_acceptRanges=Lib.acceptData by kernel_rfl] at r2;have tabs:Lib.Utf8Tabs 1 2 W:=utf8Tabs_of_reads Tryz.lays260 u8x r1 r2;obtain⟨ev,c,cc⟩:=ifc_cell (g:=3) (t:=335) r3 (by kernel_rfl) (by kernel_rfl) Tryz.underlying335;exact⟨cell_of_shapedOpen_int (zero:=#[.int .i64 0]) (t:=3) hS (of_decide_eq_true (by kernel_rfl)) (by kernel_rfl) rfl (by kernel_rfl) (by kernel_rfl) Tryz.underlying3,tabs,dom_of (ifc_cell (g:=4) (t:=335) r4 (by kernel_rfl) (by kernel_rfl) Tryz.underlying335),⟨ev,c,cc⟩,ifc_cell (g:=4) (t:=335) r4 (by kernel_rfl) (by kernel_rfl) Tryz.underlying335⟩
end
section
theorem joined_of {P:Program}{f:FuncId}{fn:Func}{s:ChangeSpec}{c:OpenClaim}
  (h0:(c.wf (OpenSpec.ofChange s))=true)
  (h1:(laidOutB P)=true)
  (h2:(mapsRowed P)=true)
  (h3:(fn.params.all (P.readableRec ·))=true)
  (h4:(namedTie P c.named s.vars)=true)
  (h5:((c.stops==[]))=true)
  (h6:((P.stops==[]))=true)
  (h7:((c.knobs==[]))=true)
  (h8:((P.stopKnobs==[]))=true)
  (h9:((c.inPlace==P.inPlace f))=true)
  (h10:((c.unfollowed==P.unfollowed f))=true)
  (h11:((c.recurses==P.recurses f))=true)
  (h12:((c.named==P.varsNamed f))=true)
  (h13:((c.maps==(fn.params.toList++s.plain.varTypes P).any (P.mapsRec ·)))=true)
  (h14:((c.ifaces==(fn.params.toList++s.plain.varTypes P).any (P.ifacesRec ·)))=true)
  (h15:((c.mapsOut==P.mapsAmong fn.resultTypes.toList))=true)
  (h16:((c.loops==(fn.params.toList++s.plain.varTypes P).any (P.loopsFrom ·)))=true)
  (h17:((c.wideKeys==(fn.params.toList++s.plain.varTypes P++fn.resultTypes.toList).any (P.wideKeysFrom ·)))=true)
  (h18:(s.vars.all (P.varReadable ·))=true)
  (h19:(fn.resultTypes.all (fun t=>P.readableRec t&&decide (t<P.types.size)))=true)
  (h20:((c.ifacesOut==fn.resultTypes.toList.any (P.ifacesRec ·)))=true)
  (h21:((c.loopsOut==fn.resultTypes.toList.any (P.loopsFrom ·)))=true)
  (h22:((c.plainKeys==P.plainKeys))=true)
  (h23:(c.shortTexts.isNone)=true)
  (h24:(P.stopsHeard)=true)
  (h25:(P.mayEnter)=true)
  (h26:((c.lifted==P.liftsFinal))=true)
  (h27:((P.make==some c.make))=true)
  (h28:((c.kinds==(if c.domain.isEmpty then[] else fn.params.toList.map fun t=>match P.underlying t with | some (.int k)=>some k | _=>none)))=true)
  (h29:((c.pinned==c.pinnedBy))=true)
  (h30:((c.veiled==(fn.params.toList++s.plain.varTypes P++fn.resultTypes.toList).any (P.veiledRec ·)))=true)
  (h31:(c.veiledFits P fn.params.toList (fn.params.toList++s.plain.varTypes P++fn.resultTypes.toList))=true) :
  joinedFacts P f fn s c=true:=by
 unfold joinedFacts;simp only[Bool.and_eq_true];exact⟨⟨⟨⟨⟨⟨⟨⟨⟨⟨⟨⟨⟨⟨⟨⟨⟨⟨⟨⟨⟨⟨⟨⟨⟨⟨⟨⟨⟨⟨⟨h0,h1⟩,h2⟩,h3⟩,h4⟩,h5⟩,h6⟩,h7⟩,h8⟩,h9⟩,h10⟩,h11⟩,h12⟩,h13⟩,h14⟩,h15⟩,h16⟩,h17⟩,h18⟩,h19⟩,h20⟩,h21⟩,h22⟩,h23⟩,h24⟩,h25⟩,h26⟩,h27⟩,h28⟩,h29⟩,h30⟩,h31⟩
end
section
open Go.Proofs.YthbopkpamlbjoaaGreatDoor
open Go.Proofs (Tryz.prog Tryz.f7)
theorem fact7_0:(Rows.timerPlaysUptoRow.wf (OpenSpec.ofChange Rows.timerPlaysSpec))=true:=by kernel_rfl
theorem fact7_1:(laidOutB Tryz.prog)=true:=by kernel_rfl
theorem fact7_2:(mapsRowed Tryz.prog)=true:=by kernel_rfl
theorem fact7_3:(Tryz.f7.params.all (Tryz.prog.readableRec ·))=true:=by kernel_rfl
theorem fact7_4:(namedTie Tryz.prog Rows.timerPlaysUptoRow.named Rows.timerPlaysSpec.vars)=true:=by kernel_rfl
theorem fact7_5:((Rows.timerPlaysUptoRow.stops==[]))=true:=by kernel_rfl
theorem fact7_6:((Tryz.prog.stops==[]))=true:=by kernel_rfl
theorem fact7_7:((Rows.timerPlaysUptoRow.knobs==[]))=true:=by kernel_rfl
theorem fact7_8:((Tryz.prog.stopKnobs==[]))=true:=by kernel_rfl
theorem fact7_9:((Rows.timerPlaysUptoRow.inPlace==Tryz.prog.inPlace 7))=true:=by kernel_rfl
theorem fact7_10:((Rows.timerPlaysUptoRow.unfollowed==Tryz.prog.unfollowed 7))=true:=by kernel_rfl
theorem fact7_11:((Rows.timerPlaysUptoRow.recurses==Tryz.prog.recurses 7))=true:=by kernel_rfl
theorem fact7_12:((Rows.timerPlaysUptoRow.named==Tryz.prog.varsNamed 7))=true:=by kernel_rfl
theorem fact7_13:((Rows.timerPlaysUptoRow.maps==(Tryz.f7.params.toList++Rows.timerPlaysSpec.plain.varTypes Tryz.prog).any (Tryz.prog.mapsRec ·)))=true:=by kernel_rfl
theorem fact7_14:((Rows.timerPlaysUptoRow.ifaces==(Tryz.f7.params.toList++Rows.timerPlaysSpec.plain.varTypes Tryz.prog).any (Tryz.prog.ifacesRec ·)))=true:=by kernel_rfl
theorem fact7_15:((Rows.timerPlaysUptoRow.mapsOut==Tryz.prog.mapsAmong Tryz.f7.resultTypes.toList))=true:=by kernel_rfl
theorem fact7_16:((Rows.timerPlaysUptoRow.loops==(Tryz.f7.params.toList++Rows.timerPlaysSpec.plain.varTypes Tryz.prog).any (Tryz.prog.loopsFrom ·)))=true:=by kernel_rfl
theorem fact7_17:((Rows.timerPlaysUptoRow.wideKeys==(Tryz.f7.params.toList++Rows.timerPlaysSpec.plain.varTypes Tryz.prog++Tryz.f7.resultTypes.toList).any (Tryz.prog.wideKeysFrom ·)))=true:=by kernel_rfl
theorem fact7_18:(Rows.timerPlaysSpec.vars.all (Tryz.prog.varReadable ·))=true:=by kernel_rfl
theorem fact7_19:(Tryz.f7.resultTypes.all (fun t=>Tryz.prog.readableRec t&&decide (t<Tryz.prog.types.size)))=true:=by kernel_rfl
theorem fact7_20:((Rows.timerPlaysUptoRow.ifacesOut==Tryz.f7.resultTypes.toList.any (Tryz.prog.ifacesRec ·)))=true:=by kernel_rfl
theorem fact7_21:((Rows.timerPlaysUptoRow.loopsOut==Tryz.f7.resultTypes.toList.any (Tryz.prog.loopsFrom ·)))=true:=by kernel_rfl
theorem fact7_22:((Rows.timerPlaysUptoRow.plainKeys==Tryz.prog.plainKeys))=true:=by kernel_rfl
theorem fact7_23:(Rows.timerPlaysUptoRow.shortTexts.isNone)=true:=by kernel_rfl
theorem fact7_24:(Tryz.prog.stopsHeard)=true:=by kernel_rfl
theorem fact7_25:(Tryz.prog.mayEnter)=true:=by kernel_rfl
theorem fact7_26:((Rows.timerPlaysUptoRow.lifted==Tryz.prog.liftsFinal))=true:=by kernel_rfl
theorem fact7_27:((Tryz.prog.make==some Rows.timerPlaysUptoRow.make))=true:=by kernel_rfl
theorem fact7_28:((Rows.timerPlaysUptoRow.kinds==(if Rows.timerPlaysUptoRow.domain.isEmpty then[] else Tryz.f7.params.toList.map fun t=>match Tryz.prog.underlying t with | some (.int k)=>some k | _=>none)))=true:=by kernel_rfl
theorem fact7_29:((Rows.timerPlaysUptoRow.pinned==Rows.timerPlaysUptoRow.pinnedBy))=true:=by kernel_rfl
theorem fact7_30:((Rows.timerPlaysUptoRow.veiled==(Tryz.f7.params.toList++Rows.timerPlaysSpec.plain.varTypes Tryz.prog++Tryz.f7.resultTypes.toList).any (Tryz.prog.veiledRec ·)))=true:=by kernel_rfl
theorem fact7_31:(Rows.timerPlaysUptoRow.veiledFits Tryz.prog Tryz.f7.params.toList (Tryz.f7.params.toList++Rows.timerPlaysSpec.plain.varTypes Tryz.prog++Tryz.f7.resultTypes.toList))=true:=by kernel_rfl
end
section
open Go.Proofs.YthbopkpamlbjoaaGreatDoor
open Go.Joins Go.ChangeShapes Go.WideShapes Go.ChangeAt Go.RowKit Go.Deep
open Go.Proofs (Tryz.prog Tryz.checked Tryz.f7 Tryz.func7 Tryz.params7 Tryz.underlying2 Tryz.underlying4)
set_option maxRecDepth 100000
noncomputable def worldP (os:Os):World:=World.laidAll Tryz.prog os Rows.timerPlaysUptoRow.laid
noncomputable def argsP:Array Value:=#[case0,.slice none 0 0]
theorem laidP_met (os:Os):laidMet Tryz.prog Rows.timerPlaysUptoRow.laid ((worldP os).forCall (fun _ _=>0) ⟨#[],argsP,[]⟩).memory :=
 laidMet_laidAll _ (by kernel_rfl) (by kernel_rfl)
theorem plays_reads (os:Os){H:Type}(enc:TypeId×Value->H):∃places,DataW.whole enc Tryz.prog ((worldP os).forCall (fun _ _=>0) ⟨#[],argsP,[]⟩).memory Tryz.f7.params.toList Rows.timerPlaysSpec.vars false argsP.toList 8 =
  some ([.agg [.agg [.nil,.lit (.int .i64 0),.lit (.int .i64 0),.lit (.bool false),.lit (.bool false),.lit (.bool false),.lit (.string [])],.lit (.string []),.agg (List.replicate 16 (.lit (.int .u8 0))),.agg [.nil,.nil,.nil,.lit (.string [])]],.nil],[],places) :=
 ⟨[],by kernel_rfl⟩
theorem plays_upto (hEnv:EnvGood Rows.timerPlaysUptoRow.laid)(os:Os)(started:os.Started)(H:Type)(enc:TypeId×Value->H)(F:Stop.Interp) :
  ReturnsInHanded {} Tryz.checked os 7 .any ((Rows.OpenSpec.upto Rows.timerPlaysSpec).preRow enc Tryz.prog Tryz.f7 Rows.timerPlaysUptoRow.domain false Rows.timerPlaysUptoRow.laid) (((Rows.OpenSpec.upto Rows.timerPlaysSpec).at F).post enc Tryz.prog Tryz.f7 false true false false):=by
 obtain⟨places,hx⟩:=plays_reads os enc
 refine returnsInHanded_of_row (C:=Tryz.checked) (s:=Rows.OpenSpec.upto Rows.timerPlaysSpec) own started (by kernel_rfl) Tryz.func7
  (witness_row_atRef (enc:=enc) (C:=Tryz.checked) false (worldP os) argsP (World.laidAll_os _ _ _) (by kernel_rfl) (by kernel_rfl) (by kernel_rfl)
   (OpenSpec.preRow_of_cond 8 hx (by kernel_rfl) (fun k hk=>by cases hk; kernel_rfl) (by kernel_rfl) (laidP_met os))) ?_
 intro W base args ds gs before hval hW _ hcond _ hL hS _;exact plays_contract hEnv H enc W base args ds gs before hval hW hL hS (of_decide_eq_true (hcond _ rfl))
theorem plays_said (hEnv:EnvGood Rows.timerPlaysUptoRow.laid):Rows.TimerPlaysUptoSaid :=
 OpenClaim.holds_of_cond 7 Tryz.f7 rfl rfl rfl rfl rfl rfl rfl ⟨rfl,rfl,rfl,rfl,rfl⟩ rfl rfl rfl rfl rfl (by kernel_rfl) Tryz.func7 (joined_of fact7_0 fact7_1 fact7_2 fact7_3 fact7_4 fact7_5 fact7_6 fact7_7 fact7_8 fact7_9 fact7_10 fact7_11 fact7_12 fact7_13 fact7_14 fact7_15 fact7_16 fact7_17 fact7_18 fact7_19 fact7_20 fact7_21 fact7_22 fact7_23 fact7_24 fact7_25 fact7_26 fact7_27 fact7_28 fact7_29 fact7_30 fact7_31)
  (of_decide_eq_true (by kernel_rfl)) (by unfold Func.isWrapper; first | (rw[if_pos (by decide +kernel)]; kernel_rfl) | (rw[if_neg (by decide +kernel)]; exact⟨rfl,rfl⟩))
  (fun os started H enc _ F=>by rw[OpenClaim.pre_eq_preRow]; exact plays_upto hEnv os started H enc F)
theorem plays_plain (f:FuncId)(fn:Func)(hf:Tryz.pinned.checked.prog.funcNamed "clepsydra/clepsydralaw29.TimerPlays" = some f)(hfn:Tryz.pinned.checked.prog.funcs[f]?=some fn) :
  true=Tryz.pinned.checked.prog.looks []/\∀(j:Nat) t,fn.params[j]?=some t->Tryz.pinned.checked.prog.wantsStandIn t=false:=by
 obtain rfl:f=7:=Option.some.inj ((show Tryz.prog.funcNamed "clepsydra/clepsydralaw29.TimerPlays" = some 7 by kernel_rfl).symm.trans hf) |>.symm
 obtain rfl:fn=Tryz.f7:=(Option.some.inj (Tryz.func7.symm.trans hfn)).symm;refine⟨by kernel_rfl,fun j t ht=>?_⟩;rw[Tryz.params7] at ht;have hm:t∈([58,90]:List TypeId):=by simpa using Array.mem_of_getElem? ht
 have hall:(([58,90]:List TypeId).all fun u=>!Tryz.prog.wantsStandIn u)=true:=by kernel_rfl
 exact(show Tryz.prog.wantsStandIn t=false by simpa using List.all_eq_true.1 hall t hm)
theorem plays_card (hEnv:EnvGood Rows.timerPlaysUptoRow.laid):Rows.TimerPlaysUptoCardSaid :=
 Claim7.holds_tied_plain_at .later [] _ _ _ _ (plays_said hEnv) (fun _ h=>by cases h) (by kernel_rfl) (fun _ h=>by cases h) timerPlaysUpto_row_tie rfl ⟨rfl,rfl⟩ (by kernel_rfl) rfl plays_plain (by kernel_rfl)
end
section
theorem bl_zero:∀f,Lib.bitLenAux f 0=0
 | 0=>rfl
 | f+1=>by simp[Lib.bitLenAux]
theorem bl_pow:∀(f x:Nat),1<=x->2 ^ Lib.bitLenAux f x<=2*x
 | 0,x,h=>by simp[Lib.bitLenAux]; omega
 | f+1,x,h=>by
  unfold Lib.bitLenAux;rw[if_neg (by omega),Nat.pow_add];rcases Nat.eq_zero_or_pos (x/2) with h0 | h0
  ·rw[h0,bl_zero]; omega
  ·have:=bl_pow f (x/2) h0;generalize 2 ^ Lib.bitLenAux f (x/2)=q at *;omega
theorem bl_le {x:Nat}(h:x<1000000):Lib.bitLen x<=62:=by
 rcases Nat.eq_zero_or_pos x with rfl | h0
 ·exact Nat.le_trans (Nat.le_of_eq (bl_zero 64)) (Nat.zero_le _)
 ·have h1:=bl_pow 64 x h0;rcases Nat.lt_or_ge (Lib.bitLen x) 63 with h2 | h2
  ·omega
  ·have h3:2 ^ 63<=2 ^ Lib.bitLen x:=Nat.pow_le_pow_right (by omega) h2;have h4:2 ^ Lib.bitLen x<=2*x:=h1;omega
theorem index_fits:∀(s p:List UInt8),0<=Lib.index s p->Lib.index s p+p.length<=s.length
 | [],p,h=>by
  unfold Lib.index at h ⊢;split
  ·rename_i he;rw[List.isEmpty_iff.1 he]; simp
  ·rename_i he;rw[if_neg he] at h;omega
 | b::l,p,h=>by
  have ih:=index_fits l p;have hge:=Lib.index_ge l p;unfold Lib.index at h ⊢;split
  ·rename_i hp;have:=(List.isPrefixOf_iff_prefix.1 hp).length_le;simp at this ⊢;omega
  ·rename_i hp;rw[if_neg hp] at h;split
   ·rename_i hq;rw[if_pos hq] at h;omega
   ·rename_i hq;have:Lib.index l p≠-1:=by simpa using hq
    have:=ih (by omega);simp;omega
theorem index_byte (c:UInt8):∀(l:List UInt8),Lib.index l [c]=match l.findIdx? (·==c) with
  | some i=>(i:Int)
  | none=>-1
 | []=>by simp[Lib.index]
 | b::l=>by
  have ih:=index_byte c l;unfold Lib.index;rw[List.findIdx?_cons,ih]
  by_cases hb:b=c
  ·subst hb;simp[List.isPrefixOf]
  ·have h1:(c==b)=false:=by simpa using fun h=>hb h.symm
   have h2:(b==c)=false:=by simpa using hb
   simp only[List.isPrefixOf,h1,h2,Bool.false_and,Bool.false_eq_true,if_false];cases hq:l.findIdx? (·==c) with
   | none=>simp
   | some i =>
    have:((i:Int)==-1)=false:=by simp
    simp[this]
theorem decN_le (n b0 b1 b2 b3:Nat)(h:1<=n):(Lib.decodeN n b0 b1 b2 b3).2<=n:=by
 unfold Lib.decodeN
 repeat' split
 all_goals (simp only; omega)
theorem dec_fits (s:ByteArray):(Lib.decodeGoB s).2<=s.size/\(0<s.size->1<=(Lib.decodeGoB s).2):=by
 unfold Lib.decodeGoB;split
 ·rename_i h;exact⟨Nat.zero_le _,fun h'=>by omega⟩
 ·rename_i h;refine⟨?_,fun _=>Lib.width_pos _ _⟩;rw[Lib.decode_at];exact decN_le _ _ _ _ _ (by omega)
theorem pu_small (M:Nat)(hM:9999999<=M):∀(l:List UInt8) (acc k:Nat),acc<10 ^ k->k+l.length<=6->(∃u,Lib.parseUintM M acc l=.ok u/\u<=999999)\/Lib.parseUintM M acc l=Lib.parseUintB 64 []
 | [],acc,k,h,hk=>by
  have:10 ^ k<=10 ^ 6:=Nat.pow_le_pow_right (by omega) (by simpa using hk);exact .inl ⟨acc,rfl,by omega⟩
 | c::r,acc,k,h,hk=>by
  have h6:10 ^ (k+1)<=10 ^ 6:=Nat.pow_le_pow_right (by omega) (by simp only[List.length_cons] at hk; omega);have hp:10 ^ (k+1)=10 ^ k*10:=Nat.pow_succ ..;unfold Lib.parseUintM;split
  ·rename_i hc;rw[if_neg (by omega),if_neg (by omega)];exact pu_small M hM r _ (k+1) (by omega) (by simp at hk; omega)
  ·exact .inr rfl
theorem parse_small {l:List UInt8}(h:l.length<=6):(∃v,Lib.parseIntB 64 l=.ok v/\-999999<=v/\v<=999999)\/Lib.parseIntB 64 l=Lib.parseIntB 64 []:=by
 unfold Lib.parseIntB;split
 ·exact .inr rfl
 ·rename_i c r
  have hk:∀l':List UInt8,l'.length<=6->(∃u,Lib.parseUintB 64 l'=.ok u/\u<=999999)\/Lib.parseUintB 64 l'=Lib.parseUintB 64 []:=fun l' hl=>by
   unfold Lib.parseUintB;split
   ·exact .inr rfl
   ·exact pu_small _ (by decide) l' 0 0 (by decide) (by omega)
  have hl:(if c.toNat=43\/c.toNat=45 then r else c::r).length<=6:=by
   simp only[List.length_cons] at h;split
   ·omega
   ·simp only[List.length_cons]; omega
  rcases hk _ hl with⟨u,e,hu⟩ | e
  ·rw[e];simp only[];rw[if_neg (by omega),if_neg (by omega)];refine .inl ⟨_,rfl,?_⟩;split<;>omega
  ·rw[e]; exact .inr rfl
end
section
open Go.RowKit Go.Maps
open Go.Proofs (Tryz.prog)
set_option maxRecDepth 100000
def zK (p:Value×Value):Bool:=match p with
 | (.int .i64 n,.int .i64 _)=>decide (-9223372036854775808<=n)&&decide (n<=9223372036854775807)
 | _=>false
def keysOk (es:List (Value×Value)):Bool:=decide (1<=es.length)&&decide (es.length<=1000)&&es.all zK
noncomputable def sortK (es:List (Value×Value)):List Int:=(ikeys es).mergeSort (fun x y=>decide (x<=y))
theorem zK_inv {p:Value×Value}(h:zK p=true):∃n v,p=(.int .i64 n,.int .i64 v)/\-9223372036854775808<=n/\n<=9223372036854775807:=by
 unfold zK at h;split at h
 ·rename_i n v;simp only[Bool.and_eq_true,decide_eq_true_eq] at h;exact⟨n,v,rfl,h.1,h.2⟩
 ·cases h
theorem keys_inv {es:List (Value×Value)}(h:keysOk es=true):1<=es.length/\es.length<=1000/\es.all zK=true:=by
 simp only[keysOk,Bool.and_eq_true,decide_eq_true_eq] at h;exact⟨h.1.1,h.1.2,h.2⟩
theorem keys_all {es:List (Value×Value)}(h:keysOk es=true):es.all zK=true:=(keys_inv h).2.2
theorem keys_ok {es:List (Value×Value)}(hz:∀p∈es,∃n v,p=(Value.int .i64 n,Value.int .i64 v)/\-9223372036854775808<=n/\n<=9223372036854775807)(n1:1<=es.length)(n2:es.length<=1000):keysOk es=true:=by
 simp only[keysOk,Bool.and_eq_true,decide_eq_true_eq];refine⟨⟨n1,n2⟩,List.all_eq_true.2 fun p hp=>?_⟩;obtain⟨n,v,rfl,a,b⟩:=hz p hp;simp[zK,a,b]
theorem er_same {m:Q.Mq}{es es':List (Value×Value)}(he:Q.ER m es es')(h:es.all zK=true):es'=es:=by
 induction he with
 | nil=>rfl
 | cons hk hv hl ih =>
  simp only[List.all_cons,Bool.and_eq_true] at h;obtain⟨n,v,e,-,-⟩:=zK_inv h.1;cases e;rw[hk.int',hv.int',ih h.2]
def RT (_:Value):Option (DataW Unit×List MemPlace):=some (.lit (.bool true),[])
theorem ins_perm {x:Lit×DataW Unit}:∀l,(DataW.insert x l).Perm (x::l)
 | []=>.refl _
 | y::r=>by
  unfold DataW.insert;split
  ·exact .refl _
  ·exact((ins_perm r).cons y).trans (.swap ..)
theorem fold_perm:∀l:List (Lit×DataW Unit),(l.foldr DataW.insert []).Perm l
 | []=>.refl _
 | x::l=>(ins_perm _).trans ((fold_perm l).cons x)
theorem owns_of {m:Mp}{w:World}{q:Pl}{es:List (Value×Value)}(hM:MapR m w q es)(hk:keysOk es=true){k:TypeId}(hkt:Tryz.prog.underlying k=some (.int .i64)) :
  ∃D:DataW Unit,w.ownsMap Tryz.prog k RT q.c es.length D/\(intKeys D).Perm (ikeys es)/\Maps.size D=es.length:=by
 obtain⟨-,es',ck,h1,h2,h3,h4⟩:=hM;obtain⟨k1,k2,k3⟩:=keys_inv hk
 have key:∀(i:Nat) (x:MapEntry),es'.toList[i]?=some x->∃n,x.key=.int .i64 n/\(Lit.int .i64 n).wf=true/\(ikeys es)[i]?=some n:=by
  intro i x hx
  have hi:i<es.length:=by
   have:=(List.getElem?_eq_some_iff.1 hx).1;simpa[h2] using this
  have he:es[i]?=some (es[i].1,es[i].2):=by simp[hi]
  obtain⟨e',q1,q2,-⟩:=h3 i _ _ he
  have:e'=x:=by
   have:es'[i]?=some x:=by simpa using hx
   rw[q1] at this;exact Option.some.inj this
  subst this;obtain⟨n,v,e,a,b⟩:=zK_inv (List.all_eq_true.1 k3 _ (List.getElem_mem hi));rw[e] at q2
  have e2:e'.key=.int .i64 n:=by
   generalize e'.key=y at q2;cases q2;rfl
  refine⟨n,e2,by
   have m1:IntKind.i64.min=-9223372036854775808:=by decide
   have m2:IntKind.i64.max=9223372036854775807:=by decide
   simp only[Lit.wf,Bool.and_eq_true,decide_eq_true_eq,m1,m2];exact⟨a,b⟩,?_⟩
  simp[ikeys,hi,e]
 have rdx:∀(i:Nat) (x:MapEntry),es'.toList[i]?=some x->∃n,WideElems.rd Tryz.prog k RT x=some (.int .i64 n,.lit (.bool true))/\(ikeys es)[i]?=some n:=by
  intro i x hx;obtain⟨n,a,b,c⟩:=key i x hx;refine⟨n,?_,c⟩;obtain⟨xk,xv,xb⟩:=x;simp only at a;subst a;exact WideElems.rd_mk (R:=RT) (yv:=(.lit (.bool true),[])) (Maps.keyOf_int_mk hkt b) rfl
 refine⟨.map ((es'.toList.map (WideElems.rg Tryz.prog k RT)).foldr DataW.insert []),⟨es',ck,h1,⟨by rw[h2]; exact Nat.le_trans k2 (by decide),h4,fun x hx=>?_⟩,by omega,rfl⟩,?_,?_⟩
 ·obtain⟨i,hi⟩:=List.getElem?_of_mem hx;obtain⟨n,a,-⟩:=rdx i x hi;exact⟨_,a⟩
 ·refine((fold_perm _).map fun p=>intOf p.1).trans (.of_eq ?_);refine List.ext_getElem? fun i=>?_;simp only[List.getElem?_map];cases hx:es'.toList[i]? with
  | none =>
   have:es.length<=i:=by
    rw[List.getElem?_eq_none_iff] at hx;simpa[h2] using hx
   simp[ikeys,this]
  | some x =>
   obtain⟨n,a,b⟩:=rdx i x hx;rw[b,Option.map_some,Option.map_some,WideElems.rg_of a];rfl
 ·have:=(fold_perm (es'.toList.map (WideElems.rg Tryz.prog k RT))).length_eq;simpa[Maps.size,h2] using this
theorem fn_inv {m:Mp}{f:FuncId}{a b:Array Value}{y:Value}(h:VR m (.func (.func f) a b) y):∃a' b',y=.func (.func f) a' b'/\LR m a.toList a'.toList/\LR m b.toList b'.toList:=by
 cases h with | fn _ na nb ha hb=>exact⟨_,_,rfl,LR.arr.2 ⟨na,ha⟩,LR.arr.2 ⟨nb,hb⟩⟩
theorem ptr_inv {m:Mp}{b o:Nat}{y:Value}(h:VR m (.pointer (some ⟨b,o,none⟩)) y):∃p,m b=some p/\y=.pointer (some ⟨p.c,p.base+o,none⟩):=by
 cases h with | ptr h=>exact⟨_,h,rfl⟩
theorem map_inv {m:Mp}{b:Nat}{y:Value}(h:VR m (.map (some b)) y):∃p,m b=some p/\y=.map (some p.c):=by
 cases h with | map h=>exact⟨_,h,rfl⟩
open Go.Proofs in
theorem sortsI (n:Nat):AnyZI.SortsIn Tryz.prog Tryz.sortedI_ren Fence.wide n :=
 ⟨fun blk off cap ss W hH hblk hsz=>callsIn_wide.2 (AnyM.slices_Sort_int Tryz.sortI blk off cap ss W hH hblk hsz),
  fun p cap W=>callsIn_wide.2 (AnyM.slices_Sort_int_none Tryz.sortI p cap W)⟩
open Go.Proofs in
theorem sorted_calls {w:World} {c mc n:Nat} {D:DataW Unit} (hc:w.cell? ⟨c,0,none⟩=some (.map (some mc))) (hlt:c<w.heap.size) (hown:w.ownsMap Tryz.prog 3 RT mc n D) (hn:Maps.size D<=1000) :
  Calls Tryz.prog 113 #[.func (.func 173) #[] #[.pointer (some ⟨c,0,none⟩)]] w fun e w'=>∃(v:Value) (ss:List Int),e=.returned v/\ss.Perm (intKeys D)/\w'.ownsRow w.heap.size 3 1 v ss.length ((ss.mergeSort (fun x y=>decide (x<=y))).map encZ)/\(v=.slice none 0 0<->ss=[])/\Below w.heap.size w w':=by
 refine(callsIn_wide (n:=5)).1 ?_
 have hseq:SeqGives Fence.wide 2 Tryz.prog 173 #[.pointer (some ⟨c,0,none⟩)] encZ (fun ss=>ss.Perm (intKeys D)) (Maps.size D) w :=
  AnyZI.keys_gives (ρ:=Tryz.keysI_ren) { Tryz.keysI with } Fence.wide _ trivial rfl (by omega) c mc n D w hlt hc hown
 have cS:=AnyZI.sorted_in Tryz.sortedI Fence.wide 5 trivial trivial trivial trivial rfl (by omega) (sortsI _) (enters_of Tryz.func172 (by kernel_rfl) rfl) 173 #[.pointer (some ⟨c,0,none⟩)] trivial (enters_of Tryz.func173 (by kernel_rfl) rfl) _ _ (Nat.le_trans hn (by decide)) (by omega) w hseq;exact cS
theorem enters_sorted:Go.Proofs.Enters Tryz.prog 113:=Go.Proofs.enters_of Go.Proofs.Tryz.func113 (by kernel_rfl) rfl
section
variable [S:Start]
theorem fn_sorted {lim:Nat}{b mb:Nat}{es:List (Value×Value)}{h:Hp}(hb:h[b]?=some (.cells true [.map (some mb)]))(hm:h[mb]?=some (.map es))(hk:keysOk es=true) :
  FnOk Tryz.prog lim 113 [.func (.func 173) #[] #[.pointer (some ⟨b,0,none⟩)]] h (.slice (some ⟨h.length,0,none⟩) es.length 1) (h++[.cells true (ints (sortK es))]):=by
 intro m w args' H hl hL;obtain⟨y,l,e,hy,hl2⟩:=hL.cases_cons;obtain rfl:=hl2.cases_nil;obtain⟨a',b',rfl,ha,hb'⟩:=fn_inv hy;obtain⟨a'⟩:=a';obtain⟨b'⟩:=b';obtain rfl:a'=[]:=ha.cases_nil;obtain⟨z,l,e2,hz,hl2⟩:=hb'.cases_cons;obtain rfl:=hl2.cases_nil;obtain rfl:b'=[z]:=e2;obtain⟨p,hp,rfl⟩:=ptr_inv hz;obtain⟨ho,hC⟩:=H.blk b p _ hp hb;have h0:=H.off b p hp ho.symm;obtain⟨v',q1,q2⟩:=hC.1 0 (by simp);obtain⟨q,hq,rfl⟩:=map_inv q2;have hM:MapR m w q es:=H.blk mb q _ hq hm;obtain⟨D,hown,hperm,hsz⟩:=owns_of (k:=3) hM hk Go.Proofs.Tryz.underlying3;obtain⟨k1,k2,k3⟩:=keys_inv hk;rw[h0] at q1;obtain⟨args'⟩:=args';obtain rfl:args'=[Value.func (.func 173) #[] #[.pointer (some ⟨p.c,p.base+0,none⟩)]]:=e;rw[h0];refine⟨enters_sorted _,callsIn_wide.2 ((sorted_calls q1 (H.dom b p hp).2 hown (by omega)).mono ?_)⟩;rintro e w' ⟨v,ss,rfl,hp1,hrow,hnil,B⟩;have hss:=hp1.trans hperm;have hlen:ss.length=es.length:=by rw[hss.length_eq]; simp[ikeys]
 have hsort:ss.mergeSort (fun x y=>decide (x<=y))=sortK es:=Go.mergeSort_of_perm_i hss;rw[hsort,hlen] at hrow;obtain⟨r1,⟨rfl,r2⟩ | ⟨g,cap,cur,rfl,g1,g2,g3,g4,g5,g6⟩⟩:=hrow
 ·omega
 ·have hlt:g<w'.heap.size:=(Array.getElem?_eq_some_iff.1 g2).1;have hs1:(ints (sortK es)).length=es.length:=by simp[ints,sortK,ikeys]
  have cell:∀i,i<cap->w'.cell? ⟨g,i,none⟩=cur[i]?:=fun i hi=>by simp[World.cell?,g2]
  have hb:BR (ins m h.length ⟨g,0,cap,true⟩) w' ⟨g,0,cap,true⟩ (.cells true (ints (sortK es))):=by
   refine⟨rfl,fun i hi=>?_,fun _=>⟨by rw[hs1]; exact g3,fun i hi=>⟨?_,?_⟩⟩⟩
   ·have hi':i<es.length:=by omega
    have e1:cur[i]?=(ints (sortK es))[i]?:=by
     have:=congrArg (fun l=>l[i]?) g6;simp only[List.getElem?_take,Nat.mul_one,if_pos hi',Array.getElem?_toList] at this;exact this
    have e2:(ints (sortK es))[i]?=some ((ints (sortK es)).getD i undef):=by simp[List.getD_eq_getElem?_getD,hi]
    refine⟨(ints (sortK es)).getD i undef,by rw[Nat.zero_add,cell i (by omega),e1,e2],?_⟩
    have:∃n,(ints (sortK es)).getD i undef=.int .i64 n:=by
     simp only[ints,List.length_map] at hi;exact⟨(sortK es)[i],by simp[ints,List.getD_eq_getElem?_getD,hi]⟩
    obtain⟨n,en⟩:=this;rw[en];exact .int _ _
   ·have hi':i<cur.size:=by have:i<cap:=hi; omega
    exact⟨cur[i],by rw[Nat.zero_add,cell i hi]; simp[hi']⟩
   ·simp[World.frozen?,g2]
  obtain⟨s1,s2⟩:=below_new (lim:=lim) (k:=.cells true (ints (sortK es))) (p:=⟨g,0,cap,true⟩) H hl B g1 hlt hb (fun _=>rfl);exact⟨_,ins m h.length ⟨g,0,cap,true⟩,rfl,.sl (p:=⟨g,0,cap,true⟩) (ins_self _ _ _) g3 (fun _=>by show 0+cap*1<=cap; omega),s1,s2⟩
end
end
section
open Go.RowKit
open Go.Proofs (Tryz.prog)
set_option maxRecDepth 100000
noncomputable def oLen (args:List Value)(h:Hp):Option (Value×Hp):=match args with
 | [.int .u64 n]=>if 0<=n/\n<=18446744073709551615 then some (.int .i64 (Lib.bitLen n.toNat),h) else none
 | _=>none
noncomputable def oIdx (args:List Value)(h:Hp):Option (Value×Hp):=match args with
 | [.string s,.string p]=>if s.size<4294967281 then some (.int .i64 (Lib.index s.data.toList p.data.toList),h) else none
 | _=>none
noncomputable def oDec (args:List Value)(h:Hp):Option (Value×Hp):=match args with
 | [.string s]=>some (.tuple #[.int .i32 (Lib.decodeGo s).1,.int .i64 (Lib.decodeGo s).2],h)
 | _=>none
noncomputable def oLow (args:List Value)(h:Hp):Option (Value×Hp):=match args with
 | [.string s]=>if s.size<35184372088832 then some (.string ⟨(Lib.mapD lowF s.data.toList).toArray⟩,h) else none
 | _=>none
noncomputable def oCnt (args:List Value)(h:Hp):Option (Value×Hp):=match args with
 | [.string s,.string p]=>match p.data.toList with
  | [c]=>some (.int .i64 (Lib.countByte s.data.toList c),h)
  | _=>none
 | _=>none
def errV (h:Hp):Value:=.iface 407 (.pointer (some ⟨h.length,0,none⟩))
def numO (r:Lib.NumEnd Int)(sat:Int)(h:Hp):Option (Value×Hp):=match r with
 | .ok v=>some (.tuple #[.int .i64 v,.nilIface],h)
 | .range=>some (.tuple #[.int .i64 sat,errV h],h++[.dead])
 | _=>some (.tuple #[.int .i64 0,errV h],h++[.dead])
noncomputable def oAtoi (args:List Value)(h:Hp):Option (Value×Hp):=match args with
 | [.string s]=>if s.size<1000000 then numO (Lib.atoiAll s.data.toList) (Lib.atoiSat s.data.toList) h else none
 | _=>none
noncomputable def oParse (args:List Value)(h:Hp):Option (Value×Hp):=match args with
 | [.string s,.int .i64 b,.int .i64 w]=>if s.size<1000000/\b=10/\w=64 then numO (Lib.parseIntB 64 s.data.toList) (Lib.intSat 64 s.data.toList) h else none
 | _=>none
noncomputable def oSort (args:List Value)(h:Hp):Option (Value×Hp):=match args with
 | [.func (.func f) a c]=>if f=173/\a.size=0 then match c.toList with
  | [.pointer (some ⟨b,0,none⟩)]=>match h[b]? with
   | some (.cells true [.map (some mb)])=>match h[mb]? with
    | some (.map es)=>if keysOk es=true then some (.slice (some ⟨h.length,0,none⟩) es.length 1,h++[.cells true (ints (sortK es))]) else none
    | _=>none
   | _=>none
  | _=>none
  else none
 | _=>none
noncomputable def oSI (args:List Value)(h:Hp):Option (Value×Hp):=match args with
 | [.slice none 0 0]=>some (undef,h)
 | [.slice (some ⟨b,0,none⟩) n 1]=>match h[b]? with
  | some (.cells true cs)=>match intsOf cs with
   | some xs=>if n<=xs.length/\n<1000000 then some (undef,h.set b (.cells true (ints (srtI (xs.take n)++xs.drop n)))) else none
   | none=>none
  | _=>none
 | _=>none
noncomputable def oSP (args:List Value)(h:Hp):Option (Value×Hp):=match args with
 | [.slice none 0 0,.func (.func f) a c]=>if f=108/\a.size=0/\c.size=0 then some (undef,h) else none
 | [.slice (some ⟨b,0,none⟩) n 3,.func (.func f) a c]=>if f=108/\a.size=0/\c.size=0 then match h[b]? with
  | some (.cells true cs)=>match prtsOf (cs.take (n*3)) with
   | some l=>if l.length=n/\n<1000000 then some (undef,h.set b (.cells true ((srtP l).flatMap encP++cs.drop (n*3)))) else none
   | none=>none
  | _=>none
  else none
 | _=>none
noncomputable def orcO (g:Nat)(args:List Value)(h:Hp):Option (Value×Hp) :=
 if g=167 then oLen args h else if g=162 then oIdx args h else if g=266 then oDec args h else if g=98 then oLow args h
 else if g=164 then oCnt args h else if g=260 then oAtoi args h else if g=274 then oParse args h else if g=113 then oSort args h else if g=181 then oSI args h else if g=107 then oSP args h else none
noncomputable def envO:Env:=⟨envT,fun _ _ g args h=>orcO g args h⟩
theorem envO_mono:EnvMono envO:=⟨fun _ _ _ _ _ _ _ _ h=>h⟩
theorem envO_t:EnvT envO:=⟨envO_mono,rfl⟩
theorem evI_orc {g:Nat}(hg:envT g=none){lim:Nat}{args:List Value}{h:Hp}{r:Value×Hp}(hr:orcO g args h=some r):evI envO lim (.func g) args h=some r:=(evI_iff envO_mono).2 ⟨1,by
 unfold evF;simp only[show envO.T g=none from hg];exact hr⟩
section
variable {args:List Value}{h h1:Hp}{v:Value}
theorem oLen_inv (hr:oLen args h=some (v,h1)):∃n,args=[.int .u64 n]/\0<=n/\n<=18446744073709551615/\v=.int .i64 (Lib.bitLen n.toNat)/\h1=h:=by
 unfold oLen at hr;split at hr
 ·split at hr
  ·rename_i n hn; cases hr; exact⟨n,rfl,hn.1,hn.2,rfl,rfl⟩
  ·cases hr
 ·cases hr
theorem oIdx_inv (hr:oIdx args h=some (v,h1)):∃s p,args=[.string s,.string p]/\s.size<4294967281/\v=.int .i64 (Lib.index s.data.toList p.data.toList)/\h1=h:=by
 unfold oIdx at hr;split at hr
 ·split at hr
  ·rename_i s p hn; cases hr; exact⟨s,p,rfl,hn,rfl,rfl⟩
  ·cases hr
 ·cases hr
theorem oDec_inv (hr:oDec args h=some (v,h1)):∃s,args=[.string s]/\v=.tuple #[.int .i32 (Lib.decodeGo s).1,.int .i64 (Lib.decodeGo s).2]/\h1=h:=by
 unfold oDec at hr;split at hr
 ·rename_i s; cases hr; exact⟨s,rfl,rfl,rfl⟩
 ·cases hr
theorem oLow_inv (hr:oLow args h=some (v,h1)):∃s,args=[.string s]/\s.size<35184372088832/\v=.string ⟨(Lib.mapD lowF s.data.toList).toArray⟩/\h1=h:=by
 unfold oLow at hr;split at hr
 ·split at hr
  ·rename_i s hn; cases hr; exact⟨s,rfl,hn,rfl,rfl⟩
  ·cases hr
 ·cases hr
theorem oCnt_inv (hr:oCnt args h=some (v,h1)):∃s c,args=[.string s,.string ⟨#[c]⟩]/\v=.int .i64 (Lib.countByte s.data.toList c)/\h1=h:=by
 unfold oCnt at hr;split at hr
 ·split at hr
  ·rename_i s p l c hc;cases hr;obtain⟨⟨q⟩⟩:=p;simp only at hc;subst hc;exact⟨s,c,rfl,rfl,rfl⟩
  ·cases hr
 ·cases hr
theorem oAtoi_inv (hr:oAtoi args h=some (v,h1)):∃s,args=[.string s]/\s.size<1000000/\numO (Lib.atoiAll s.data.toList) (Lib.atoiSat s.data.toList) h=some (v,h1):=by
 unfold oAtoi at hr;split at hr
 ·split at hr
  ·rename_i s hn; exact⟨s,rfl,hn,hr⟩
  ·cases hr
 ·cases hr
theorem oParse_inv (hr:oParse args h=some (v,h1)):∃s,args=[.string s,.int .i64 10,.int .i64 64]/\s.size<1000000/\numO (Lib.parseIntB 64 s.data.toList) (Lib.intSat 64 s.data.toList) h=some (v,h1):=by
 unfold oParse at hr;split at hr
 ·split at hr
  ·rename_i s b w hn;obtain⟨h1,rfl,rfl⟩:=hn;exact⟨s,rfl,h1,hr⟩
  ·cases hr
 ·cases hr
theorem oSort_inv (hr:oSort args h=some (v,h1)):∃b mb es,args=[.func (.func 173) #[] #[.pointer (some ⟨b,0,none⟩)]]/\h[b]?=some (.cells true [.map (some mb)])/\h[mb]?=some (.map es)/\keysOk es=true/\v=.slice (some ⟨h.length,0,none⟩) es.length 1/\h1=h++[.cells true (ints (sortK es))]:=by
 unfold oSort at hr;split at hr
 ·rename_i f a c;split at hr
  ·rename_i hf;obtain⟨rfl,ha⟩:=hf;obtain rfl:a=#[]:=Array.eq_empty_of_size_eq_zero ha;split at hr
   ·rename_i b hc;split at hr
    ·rename_i mb hb;split at hr
     ·rename_i es hm;split at hr
      ·rename_i hk;cases hr;obtain⟨c⟩:=c;simp only at hc;subst hc;exact⟨b,mb,es,rfl,hb,hm,hk,rfl,rfl⟩
      ·cases hr
     ·cases hr
    ·cases hr
   ·cases hr
  ·cases hr
 ·cases hr
theorem oSort_is {b mb:Nat}{es:List (Value×Value)}(hb:h[b]?=some (.cells true [.map (some mb)]))(hm:h[mb]?=some (.map es))(hk:keysOk es=true):oSort [.func (.func 173) #[] #[.pointer (some ⟨b,0,none⟩)]] h=some (.slice (some ⟨h.length,0,none⟩) es.length 1,h++[.cells true (ints (sortK es))]):=by
 simp[oSort,hb,hm,hk]
theorem oSI_inv (hr:oSI args h=some (v,h1)):(args=[.slice none 0 0]/\v=undef/\h1=h)\/∃b n xs,args=[.slice (some ⟨b,0,none⟩) n 1]/\h[b]?=some (.cells true (ints xs))/\n<=xs.length/\n<1000000/\v=undef/\h1=h.set b (.cells true (ints (srtI (xs.take n)++xs.drop n))):=by
 unfold oSI at hr;split at hr
 ·cases hr;exact .inl ⟨rfl,rfl,rfl⟩
 ·rename_i b n;split at hr
  ·rename_i cs hb;split at hr
   ·rename_i xs hx;split at hr
    ·rename_i hn;cases hr;rw[intsOf_inv hx] at hb;exact .inr ⟨b,n,xs,rfl,hb,hn.1,hn.2,rfl,rfl⟩
    ·cases hr
   ·cases hr
  ·cases hr
 ·cases hr
theorem oSI_is {b n:Nat}{xs:List Int}(hb:h[b]?=some (.cells true (ints xs)))(hn:n<=xs.length)(hx:n<1000000):oSI [.slice (some ⟨b,0,none⟩) n 1] h=some (undef,h.set b (.cells true (ints (srtI (xs.take n)++xs.drop n)))):=by
 simp[oSI,hb,intsOf_ints,hn,hx]
theorem oSP_inv (hr:oSP args h=some (v,h1)):(args=[.slice none 0 0,.func (.func 108) #[] #[]]/\v=undef/\h1=h)\/∃b l rest,args=[.slice (some ⟨b,0,none⟩) l.length 3,.func (.func 108) #[] #[]]/\h[b]?=some (.cells true (l.flatMap encP++rest))/\l.length<1000000/\v=undef/\h1=h.set b (.cells true ((srtP l).flatMap encP++rest)):=by
 unfold oSP at hr;split at hr
 ·split at hr
  ·rename_i hf;obtain⟨rfl,ha,hc⟩:=hf;cases hr;rw[Array.eq_empty_of_size_eq_zero ha,Array.eq_empty_of_size_eq_zero hc];exact .inl ⟨rfl,rfl,rfl⟩
  ·cases hr
 ·rename_i b n f a c;split at hr
  ·rename_i hf;obtain⟨rfl,ha,hc⟩:=hf;rw[Array.eq_empty_of_size_eq_zero ha,Array.eq_empty_of_size_eq_zero hc];split at hr
   ·rename_i cs hb;split at hr
    ·rename_i l hl;split at hr
     ·rename_i hn;obtain⟨rfl,hn⟩:=hn;cases hr;have e:=prtsOf_inv hl;rw[<- List.take_append_drop (l.length*3) cs,e] at hb;exact .inr ⟨b,l,_,rfl,hb,hn,rfl,rfl⟩
     ·cases hr
    ·cases hr
   ·cases hr
  ·cases hr
 ·cases hr
theorem oSP_is {b:Nat}{l:List P3}{rest:List Value}(hb:h[b]?=some (.cells true (l.flatMap encP++rest)))(hn:l.length<1000000):oSP [.slice (some ⟨b,0,none⟩) l.length 3,.func (.func 108) #[] #[]] h=some (undef,h.set b (.cells true ((srtP l).flatMap encP++rest))):=by
 have e1:(l.flatMap encP++rest).take (l.length*3)=l.flatMap encP:=by rw[<- encs_len,List.take_left]
 have e2:(l.flatMap encP++rest).drop (l.length*3)=rest:=by rw[<- encs_len,List.drop_left]
 simp[oSP,hb,e1,e2,prtsOf_encs,hn]
end
section
variable {lim:Nat}{m:Q.Mq}{args args':List Value}{h h' h1:Hp}{v:Value}
def QAns (lim:Nat)(m:Q.Mq)(h h':Hp)(v:Value)(h1:Hp)(r:Option (Value×Hp)):Prop:=∃v' h1' m1,r=some (v',h1')/\Q.VR m1 v v'/\Q.HR m1 h1 h1'/\Q.Step lim m h h' m1 h1 h1'
theorem QAns.same (H:Q.HR m h h'){r:Option (Value×Hp)}(hr:r=some (v,h'))(hv:Q.VR m v v):QAns lim m h h' v h r:=⟨v,h',m,hr,hv,H,Q.Step.refl _ _ _ _⟩
theorem num_q (H:Q.HR m h h'){r:Lib.NumEnd Int}{sat:Int}(hr:numO r sat h=some (v,h1)):QAns lim m h h' v h1 (numO r sat h'):=by
 obtain⟨a1,a2,a3⟩:=Q.alloc (lim:=lim) H (k:=.dead) (k':=.dead) .dead;cases r with
 | ok n =>
  cases hr;exact .same H rfl (Q.LR.tup (.cons (.int _ _) (.cons .inil .nil)))
 | _ =>
  cases hr;exact⟨_,_,_,rfl,Q.LR.tup (.cons (.int _ _) (.cons (.iface _ (.ptr a3)) .nil)),a1,a2⟩
theorem ints_flat (xs:List Int):(ints xs).all Q.flatQ=true:=by
 simp[ints,Q.flatQ]
theorem orc_q {g:Nat}(hA:Q.LR m args args')(H:Q.HR m h h')(hr:orcO g args h=some (v,h1)):QAns lim m h h' v h1 (orcO g args' h'):=by
 unfold orcO at hr ⊢
 by_cases e1:g=167
 ·rw[if_pos e1] at hr ⊢;obtain⟨n,rfl,n1,n2,rfl,rfl⟩:=oLen_inv hr;obtain⟨y,l,rfl,hy,hl⟩:=hA.cases_cons;obtain rfl:=hl.cases_nil;obtain rfl:=hy.int';exact .same H (by simp[oLen,n1,n2]) (.int _ _)
 rw[if_neg e1] at hr ⊢
 by_cases e2:g=162
 ·rw[if_pos e2] at hr ⊢;obtain⟨s,p,rfl,n1,rfl,rfl⟩:=oIdx_inv hr;obtain⟨y,l,rfl,hy,hl⟩:=hA.cases_cons;obtain⟨y2,l,rfl,hy2,hl⟩:=hl.cases_cons;obtain rfl:=hl.cases_nil;obtain rfl:=hy.str';obtain rfl:=hy2.str';exact .same H (by simp[oIdx,n1]) (.int _ _)
 rw[if_neg e2] at hr ⊢
 by_cases e3:g=266
 ·rw[if_pos e3] at hr ⊢;obtain⟨s,rfl,rfl,rfl⟩:=oDec_inv hr;obtain⟨y,l,rfl,hy,hl⟩:=hA.cases_cons;obtain rfl:=hl.cases_nil;obtain rfl:=hy.str';exact .same H (by simp[oDec]) (Q.LR.tup (.cons (.int _ _) (.cons (.int _ _) .nil)))
 rw[if_neg e3] at hr ⊢
 by_cases e4:g=98
 ·rw[if_pos e4] at hr ⊢;obtain⟨s,rfl,n1,rfl,rfl⟩:=oLow_inv hr;obtain⟨y,l,rfl,hy,hl⟩:=hA.cases_cons;obtain rfl:=hl.cases_nil;obtain rfl:=hy.str';exact .same H (by simp[oLow,n1]) (.str _)
 rw[if_neg e4] at hr ⊢
 by_cases e5:g=164
 ·rw[if_pos e5] at hr ⊢;obtain⟨s,c,rfl,rfl,rfl⟩:=oCnt_inv hr;obtain⟨y,l,rfl,hy,hl⟩:=hA.cases_cons;obtain⟨y2,l,rfl,hy2,hl⟩:=hl.cases_cons;obtain rfl:=hl.cases_nil;obtain rfl:=hy.str';obtain rfl:=hy2.str';exact .same H (by simp[oCnt]) (.int _ _)
 rw[if_neg e5] at hr ⊢
 by_cases e6:g=260
 ·rw[if_pos e6] at hr ⊢;obtain⟨s,rfl,n1,hn⟩:=oAtoi_inv hr;obtain⟨y,l,rfl,hy,hl⟩:=hA.cases_cons;obtain rfl:=hl.cases_nil;obtain rfl:=hy.str';simp only[oAtoi,if_pos n1];exact num_q H hn
 rw[if_neg e6] at hr ⊢
 by_cases e7:g=274
 ·rw[if_pos e7] at hr ⊢;obtain⟨s,rfl,n1,hn⟩:=oParse_inv hr;obtain⟨y,l,rfl,hy,hl⟩:=hA.cases_cons;obtain⟨y2,l,rfl,hy2,hl⟩:=hl.cases_cons;obtain⟨y3,l,rfl,hy3,hl⟩:=hl.cases_cons;obtain rfl:=hl.cases_nil;obtain rfl:=hy.str';obtain rfl:=hy2.int';obtain rfl:=hy3.int';rw[show oParse [.string s,.int .i64 10,.int .i64 64] h'=numO (Lib.parseIntB 64 s.data.toList) (Lib.intSat 64 s.data.toList) h' by simp[oParse,n1]];exact num_q H hn
 rw[if_neg e7] at hr ⊢
 by_cases e8:g=113
 ·rw[if_pos e8] at hr ⊢;obtain⟨b,mb,es,rfl,hb,hm,hk,rfl,rfl⟩:=oSort_inv hr;obtain⟨y,l,rfl,hy,hl⟩:=hA.cases_cons;obtain rfl:=hl.cases_nil;obtain⟨a',c',rfl,ha,hc⟩:=hy.fn';obtain⟨a'⟩:=a';obtain⟨c'⟩:=c';obtain rfl:a'=[]:=ha.cases_nil;obtain⟨y2,l,e,hy2,hl⟩:=hc.cases_cons;obtain rfl:=hl.cases_nil;obtain rfl:c'=[y2]:=e;obtain⟨b',q,rfl⟩:=hy2.ptr';obtain⟨k,k',f,f',R⟩:=H.blk _ _ q;rw[hb] at f;cases f;cases R with
  | cells own R =>
   rename_i cs';obtain⟨y,l,rfl,hy,hl⟩:=R.cases_cons;obtain rfl:=hl.cases_nil;obtain⟨mb',q2,rfl⟩:=hy.map';obtain⟨k,k',f2,f2',R⟩:=H.blk _ _ q2;rw[hm] at f2;cases f2;cases R with
   | map R =>
    rw[er_same R (keys_all hk)] at f2';obtain⟨a1,a2,a3⟩:=Q.alloc (lim:=lim) H (k:=.cells true (ints (sortK es))) (k':=.cells true (ints (sortK es))) (.cells true (Q.LR.flatQ (ints_flat _)));exact⟨_,_,_,oSort_is f' f2' hk,.sl a3,a1,a2⟩
 rw[if_neg e8] at hr ⊢
 by_cases e9:g=181
 ·rw[if_pos e9] at hr ⊢;rcases oSI_inv hr with⟨rfl,rfl,rfl⟩ | ⟨b,n,xs,rfl,hb,hn,hx,rfl,rfl⟩
  ·obtain⟨y,l,rfl,hy,hl⟩:=hA.cases_cons;obtain rfl:=hl.cases_nil;obtain rfl:=hy.snil';exact .same H rfl .undef
  ·obtain⟨y,l,rfl,hy,hl⟩:=hA.cases_cons;obtain rfl:=hl.cases_nil;obtain⟨b',q,rfl⟩:=hy.sl';obtain⟨k,k',f,f',R⟩:=H.blk _ _ q;rw[hb] at f;cases f;cases R with
   | cells own R =>
    rename_i cs';have e:cs'=ints xs:=R.flat_same (p:=Ab.flat1) (fun _ _ h h1=>h.flat1_same h1) (by simp[ints,flat1]);subst e;obtain⟨a1,a2⟩:=Q.setB (lim:=lim) H q (k:=.cells true (ints (srtI (xs.take n)++xs.drop n))) (k':=.cells true (ints (srtI (xs.take n)++xs.drop n))) (.cells true (Q.LR.flatQ (ints_flat _))) (fun _ m0 _ _=>.cells true (Q.LR.flatQ (ints_flat _)));exact⟨_,_,_,oSI_is f' hn hx,.undef,a1,a2⟩
 rw[if_neg e9] at hr ⊢
 by_cases e10:g=107
 ·rw[if_pos e10] at hr ⊢;rcases oSP_inv hr with⟨rfl,rfl,rfl⟩ | ⟨b,l0,rest,rfl,hb,hx,rfl,rfl⟩
  ·obtain⟨y,l,rfl,hy,hl⟩:=hA.cases_cons;obtain⟨z,l,rfl,hz,hl⟩:=hl.cases_cons;obtain rfl:=hl.cases_nil;obtain rfl:=hy.snil';obtain⟨a',c',rfl,ha,hc⟩:=hz.fn';obtain⟨a'⟩:=a';obtain⟨c'⟩:=c';obtain rfl:a'=[]:=ha.cases_nil;obtain rfl:c'=[]:=hc.cases_nil;exact .same H rfl .undef
  ·obtain⟨y,l,rfl,hy,hl⟩:=hA.cases_cons;obtain⟨z,l,rfl,hz,hl⟩:=hl.cases_cons;obtain rfl:=hl.cases_nil;obtain⟨b',q,rfl⟩:=hy.sl';obtain⟨a',c',rfl,ha,hc⟩:=hz.fn';obtain⟨a'⟩:=a';obtain⟨c'⟩:=c';obtain rfl:a'=[]:=ha.cases_nil;obtain rfl:c'=[]:=hc.cases_nil;obtain⟨k,k',f,f',R⟩:=H.blk _ _ q;rw[hb] at f;cases f;cases R with
   | cells own R =>
    rename_i cs'
    have fl:(l0.flatMap encP).all Ab.flat1=true:=by
     rw[List.all_eq_true];intro x hx;obtain⟨j,hj⟩:=List.getElem?_of_mem hx;obtain⟨n,e⟩:=encs_int l0 (List.getElem?_eq_some_iff.1 hj).1;rw[hj] at e;cases e;rfl
    have fq:∀(l:List P3),(l.flatMap encP).all Q.flatQ=true:=fun l=>by
     rw[List.all_eq_true];intro x hx;obtain⟨j,hj⟩:=List.getElem?_of_mem hx;obtain⟨n,e⟩:=encs_int l (List.getElem?_eq_some_iff.1 hj).1;rw[hj] at e;cases e;rfl
    have t1:=R.take (l0.length*3);have t2:=R.drop (l0.length*3);rw[<- encs_len,List.take_left] at t1;rw[<- encs_len,List.drop_left] at t2;have e:=t1.flat_same (p:=Ab.flat1) (fun _ _ h h1=>h.flat1_same h1) fl;rw[<- List.take_append_drop (l0.flatMap encP).length cs',e] at f'
    obtain⟨a1,a2⟩:=Q.setB (lim:=lim) H q (k:=.cells true ((srtP l0).flatMap encP++rest)) (k':=.cells true ((srtP l0).flatMap encP++cs'.drop (l0.flatMap encP).length)) (.cells true ((Q.LR.flatQ (fq _)).append t2)) (fun _ m0 _ hm=>by
     obtain⟨k,k',g1,g2,R0⟩:=hm;rw[hb] at g1;cases g1;rw[f'] at g2;cases g2;cases R0 with
     | cells own R0 =>
      have t2:=R0.drop (l0.length*3);rw[<- encs_len,List.drop_left,List.drop_left] at t2;exact .cells true ((Q.LR.flatQ (fq _)).append t2))
    exact⟨_,_,_,oSP_is f' hx,.undef,a1,a2⟩
 rw[if_neg e10] at hr;cases hr
end
theorem envO_q:Q.EnvQ envO:=⟨envT_okC,fun _ _ lim _ g args args' h h' m v h1 _ hA H _ hr=>orc_q (lim:=lim) hA H hr⟩
section
variable [S:Start](K:StartOk S.w)
include K
theorem orc_fn {lim g:Nat}{args:List Value}{h h1:Hp}{v:Value}(hr:orcO g args h=some (v,h1)):FnOk Tryz.prog lim g args h v h1:=by
 unfold orcO at hr;split at hr
 ·rename_i e; subst e;obtain⟨n,rfl,n1,n2,rfl,rfl⟩:=oLen_inv hr;exact fn_bits n1 n2
 split at hr
 ·rename_i e; subst e;obtain⟨s,p,rfl,n1,rfl,rfl⟩:=oIdx_inv hr;exact fn_index K n1
 split at hr
 ·rename_i e; subst e;obtain⟨s,rfl,rfl,rfl⟩:=oDec_inv hr;exact fn_dec K
 split at hr
 ·rename_i e; subst e;obtain⟨s,rfl,n1,rfl,rfl⟩:=oLow_inv hr;exact fn_low K n1
 split at hr
 ·rename_i e; subst e;obtain⟨s,c,rfl,rfl,rfl⟩:=oCnt_inv hr;exact fn_count
 split at hr
 ·rename_i e; subst e;obtain⟨s,rfl,n1,hn⟩:=oAtoi_inv hr;cases ha:Lib.atoiAll s.data.toList with
  | ok n=>rw[ha] at hn; cases hn; exact fn_atoi_ok (by omega) ha
  | range=>rw[ha] at hn; cases hn; exact fn_atoi_range K (by omega) ha
  | _=>rw[ha] at hn; cases hn; exact fn_atoi_syntax K (by omega) ha
 split at hr
 ·rename_i e; subst e;obtain⟨s,rfl,n1,hn⟩:=oParse_inv hr;cases ha:Lib.parseIntB 64 s.data.toList with
  | ok n=>rw[ha] at hn; cases hn; exact fn_parse_ok (by omega) ha
  | range=>rw[ha] at hn; cases hn; exact fn_parse_range K (by omega) ha
  | _=>rw[ha] at hn; cases hn; exact fn_parse_syntax K (by omega) ha
 split at hr
 ·rename_i e; subst e;obtain⟨b,mb,es,rfl,hb,hm,hk,rfl,rfl⟩:=oSort_inv hr;exact fn_sorted hb hm hk
 split at hr
 ·rename_i e; subst e;rcases oSI_inv hr with⟨rfl,rfl,rfl⟩ | ⟨b,n,xs,rfl,hb,hn,hx,rfl,rfl⟩
  ·exact fn_sortI_nil
  ·exact fn_sortI hb hn hx
 split at hr
 ·rename_i e; subst e;rcases oSP_inv hr with⟨rfl,rfl,rfl⟩ | ⟨b,l,rest,rfl,hb,hx,rfl,rfl⟩
  ·exact fn_sortP_nil
  ·exact fn_sortP hb hx
 ·cases hr
theorem envO_ok:EnvOk Tryz.prog envO:=⟨rfl,by kernel_rfl,envT_ok,fun _ _ _ _ _ _ _ _ _ hr=>orc_fn K hr⟩
end
theorem envO_len:LenOk envO:=fun lim h n n0 n1=>⟨Lib.bitLen n.toNat,evI_orc (by kernel_rfl) (by simp[orcO,oLen,n0,show n<=18446744073709551615 by omega]),bl_le (by omega),fun h1=>by
 have:=bl_pow 64 n.toNat (by omega);show((2 ^ Lib.bitLenAux 64 n.toNat:Nat):Int)<=_;omega⟩
theorem envO_idx:IdxOk envO:=fun lim s p h n1 n2=>⟨Lib.index s.data.toList p.data.toList,evI_orc (by kernel_rfl) (by simp[orcO,oIdx,show s.size<4294967281 by omega]),Lib.index_ge _ _,fun h0=>by
 have:=index_fits _ _ h0;simpa using this,fun c hc=>by subst hc; exact index_byte c _⟩
theorem envO_cnt:CntOk envO:=fun lim s c h n1=>evI_orc (by kernel_rfl) (by simp[orcO,oCnt,Lib.countByte,cntB])
theorem envO_dec:DecOk envO:=fun lim s h n1=>⟨_,_,evI_orc (by kernel_rfl) (by simp[orcO,oDec]; exact⟨rfl,rfl⟩),by omega,by exact Int.ofNat_le.2 (dec_fits s).1,fun h0=>by exact Int.ofNat_le.2 ((dec_fits s).2 h0)⟩
theorem envO_low:LowOk envO:=fun lim s h n1=>⟨_,evI_orc (by kernel_rfl) (by simp[orcO,oLow,show s.size<35184372088832 by omega]; rfl)⟩
theorem envO_atoi:AtoiOk envO:=fun lim s h n1=>by
 have e:orcO 260 [.string s] h=numO (Lib.atoiAll s.data.toList) (Lib.atoiSat s.data.toList) h:=by simp[orcO,oAtoi,n1]
 cases ha:Lib.atoiAll s.data.toList with
 | ok n=>rw[ha] at e; exact .of (evI_orc (by kernel_rfl) e) ⟨n,_,[],rfl,by simp⟩
 | range=>rw[ha] at e; exact .of (evI_orc (by kernel_rfl) e) ⟨_,_,[.dead],rfl,rfl⟩
 | _=>rw[ha] at e; exact .of (evI_orc (by kernel_rfl) e) ⟨0,_,[.dead],rfl,rfl⟩
theorem envO_parse:ParseOk envO:=fun lim s h n1=>by
 have e:orcO 274 [.string s,.int .i64 10,.int .i64 64] h=numO (Lib.parseIntB 64 s.data.toList) (Lib.intSat 64 s.data.toList) h:=by simp[orcO,oParse,show s.size<1000000 by omega]
 rcases parse_small (l:=s.data.toList) (by simpa using n1) with⟨n,ha,h1,h2⟩ | ha
 ·rw[ha] at e; exact .of (evI_orc (by kernel_rfl) e) ⟨n,_,[],rfl,by simp,h1,h2⟩
 ·rw[ha] at e; exact .of (evI_orc (by kernel_rfl) e) ⟨0,_,[.dead],rfl,rfl,by omega,by omega⟩
theorem envO_srt:SrtOk envO:=fun lim h b mb es hb hm hz n1 n2=>by
 have hk:keysOk es=true:=keys_ok hz n1 n2;have hl:(sortK es).length=es.length:=by simp[sortK,ikeys]
 refine⟨sortK es,?_,List.mergeSort_perm _ _⟩;rw[hl];exact evI_orc (by kernel_rfl) (by simp only[orcO]; exact oSort_is hb hm hk)
theorem envO_sort:SortOk envO:=fun lim h b xs n P hb hn hl hP=>by
 refine .of (evI_orc (by kernel_rfl) (by simp only[orcO]; exact oSI_is hb hn hl)) ⟨rfl,_,rfl,?_,fun j hj=>?_⟩
 ·rw[List.length_append,srtI_len,List.length_take,List.length_drop]; omega
 ·have hj':j<(srtI (xs.take n)).length:=by rw[srtI_len,List.length_take]; omega
  rw[List.getD_eq_getElem?_getD,List.getElem?_append_left hj',List.getElem?_eq_getElem hj'];have hm:(srtI (xs.take n))[j]∈xs.take n:=(List.mergeSort_perm _ _).mem_iff.1 (List.getElem_mem hj');obtain⟨i,hi,e⟩:=List.getElem_of_mem hm;have hi':i<n:=by rw[List.length_take] at hi; omega
  have:=hP i hi';rw[List.getElem_take] at e;rw[List.getD_eq_getElem?_getD,List.getElem?_eq_getElem (by omega),Option.getD_some,e] at this;exact this
theorem envO_snil:SortNil envO:=fun lim h=>evI_orc (by kernel_rfl) (by simp only[orcO]; rfl)
theorem row_parts {Q:Int->Int->Int->Prop}{cs:List Value}:∀n,RowT Q cs n->∃l:List P3,l.length=n/\cs.take (n*3)=l.flatMap encP/\∀x∈l,Q x.1 x.2.1 x.2.2
 | 0,_=>⟨[],rfl,by simp,fun x hx=>by cases hx⟩
 | n+1,H=>by
  have hl:=H.len;obtain⟨l,e1,e2,e3⟩:=row_parts n ⟨by omega,fun j hj=>H.el j (by omega)⟩;obtain⟨a,b,c,q0,q1,q2,q⟩:=H.el n (by omega);refine⟨l++[(a,b,c)],by simp[e1],?_,fun x hx=>?_⟩
  ·rw[show(n+1)*3=n*3+3 by omega,List.take_add,e2,take3 q0 q1 q2,List.flatMap_append];rfl
  ·rcases List.mem_append.1 hx with h | h
   ·exact e3 x h
   ·rw[List.mem_singleton.1 h]; exact q
theorem envO_part:PartOk envO/\PartNil envO:=⟨fun lim h b n cs Q hb H hn=>by
 obtain⟨l,rfl,e2,e3⟩:=row_parts n H;have hl:=H.len;have hb':=hb;rw[<- List.take_append_drop (l.length*3) cs,e2] at hb';refine .of (evI_orc (by kernel_rfl) (by simp only[orcO]; exact oSP_is hb' hn)) ⟨rfl,_,rfl,?_,fun j hj=>?_⟩
 ·rw[List.length_append,encs_len,srtP_len]; omega
 ·have hj':j<(srtP l).length:=by rw[srtP_len]; exact hj
  have hm:(srtP l).getD j default∈l:=(srtP_perm l).mem_iff.1 (by rw[List.getD_eq_getElem?_getD,List.getElem?_eq_getElem hj']; exact List.getElem_mem hj')
  have g:∀k,k<3->((srtP l).flatMap encP++cs.drop (l.length*3))[j*3+k]?=(encP ((srtP l).getD j default))[k]?:=fun k hk=>by
   rw[List.getElem?_append_left (by rw[encs_len]; omega)];exact encs_get _ _ _ hk hj'
  exact⟨_,_,_,g 0 (by omega),g 1 (by omega),g 2 (by omega),e3 _ hm⟩,fun lim h=>evI_orc (by kernel_rfl) (by simp only[orcO]; rfl)⟩
theorem envO_conds:Conds envO:=⟨envO_t,envO_q,c62 envO_t envO_srt,envO_idx,envO_cnt,envO_dec,envO_parse,envO_low,envO_len,envO_sort,envO_snil,envO_part,envO_atoi⟩
end
end Go.Ab
namespace Go.Proofs.YthbopkpamlbjoaaGreatDoor
open Go.Ab
theorem env_goodP:EnvGood Rows.timerPlaysUptoRow.laid:=fun W hL hS=>⟨envO,envO_conds,@envO_ok ⟨W⟩ (start_ok hL hS)⟩
theorem plays_holds:Rows.TimerPlaysUptoCardSaid:=plays_card env_goodP
end Go.Proofs.YthbopkpamlbjoaaGreatDoor
