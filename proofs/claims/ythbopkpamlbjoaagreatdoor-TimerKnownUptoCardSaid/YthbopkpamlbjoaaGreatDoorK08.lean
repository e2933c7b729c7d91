/- What Go code of this program comes to on a small machine that its translation simulates (a part of the proof of a law of its timers). No condition. -/
import Derived.ProofKit
import Derived.OpenShut
import Derived.Test.YthbopkpamlbjoaaGreatDoorRows
import Derived.Below
import Derived.Carry
import Derived.Deep.DeepHandedRow
import Derived.ChangeOld
import Derived.ShutString
import Derived.Lib.SmallJoins
import Derived.Test.YthbopkpamlbjoaaGreatDoorCards
import Derived.Test.YthbopkpamlbjoaaGreatDoorTie
import Derived.Lay
import Derived.LaidMore
import Derived.Test.YthbopkpamlbjoaaGreatDoorK07
set_option linter.unusedSimpArgs false
set_option linter.unusedVariables false
set_option linter.unusedSectionVars false
set_option maxHeartbeats 4000000
namespace Go.Ab
section
open Tb
def DK.start (d:DK)(real mono smono stamp:Int)(Z:Option ZN):DK:={ d with act:=true,k:={ d.k with st:=smono,ac:=mono,z:=Z },clk:=-1,zon:=-1,ys:=d.ys.map (startX real stamp) }
def DK.clkS (d:DK)(real:Int)(j:Bool):DK:=if j=true then { d with ys:=d.ys.map (jumpX real),clk:=if d.c.oc=true then real else d.clk } else d
def DK.zonS (d:DK)(real:Int)(Z:Option ZN)(zd:Bool):DK:=if zd=true then { d with k:={ d.k with z:=Z },zon:=if d.c.oz=true then real else d.zon } else d
variable {E:Env}(C:Conds E){lim:Nat}{h H0:Hp}{F:Nat->Prop}
include C
theorem loop30 {d:DK}{db:Nat}{X0:Hp}(D0:d.In db X0){real mono stamp:Int}{n0:Nat}(w0:X0[n0]?=some (.cells true [.int .i64 real,.int .i64 mono]))(hn0:∀r,d.r=some r->n0≠r.b/\n0≠r.p)
  {f:Fr}(f0:f.rd 0=.pointer (some ⟨db,0,none⟩))(f3:f.rd 3=.int .i64 stamp)(f6:f.rd 6=.pointer (some ⟨n0,0,none⟩))(f11:f.rd 11=.int .i64 0){P:AX->Fr->Hp->Prop}
  (hP:∀f' X,({ d with ys:=d.ys.map (startX real stamp) }:DK).In db X->(∀j,(∀r,d.r=some r->j≠r.b/\j≠r.p)->X[j]?=X0[j]?)->X.length=X0.length->P (.exit 0) f' X):Post (evK E lim (.loop lp30_0) f X0) P:=by
 have hE:=C.hE
 refine loop_post hE.mono (fun q g X=>∃(i:Nat),i<=d.ys.length/\({ d with ys:=updN (startX real stamp) i d.ys }:DK).In db X/\(∀j,(∀r,d.r=some r->j≠r.b/\j≠r.p)->X[j]?=X0[j]?)/\X.length=X0.length /\
  g.rd 0=.pointer (some ⟨db,0,none⟩)/\g.rd 3=.int .i64 stamp/\g.rd 6=.pointer (some ⟨n0,0,none⟩)/\g.rd 11=.int .i64 i/\d.ys.length-i=q) ?_ d.ys.length _ _ ⟨0,Nat.zero_le _,D0,fun _ _=>rfl,rfl,f0,f3,f6,f11,rfl⟩
 clear f0 f3 f6 f11;rintro q g X ⟨i,hi,DX,xo,xl,g0,g3,g6,g11,hq⟩;have hn:=D0.n;have ul:=updN_len (startX real stamp) i d.ys;have xw:=(xo n0 hn0).trans w0
 by_cases hlt:(i:Int)<d.ys.length
 ·have hi':i<d.ys.length:=by omega
  obtain⟨x,hxi⟩:∃x,d.ys[i]?=some x:=⟨_,List.getElem?_eq_getElem hi'⟩;have uget:=updN_get (u:=startX real stamp) hxi;have uset:=updN_set (u:=startX real stamp) hxi;have a2:(0<=(i:Int))=True:=by simp
  have a8:=wn1 (i:=i);obtain⟨R,hR,n1,n2,n3,n4,b1,b2,b3,b4⟩:=DX.get uget;have hR:d.r=some R:=hR;simp only at b1 b2 b3 b4;have D1:=DX.base (r:=R) hR uget (if stamp<0 then real else min real stamp);simp only at D1;have uget1:((updN (startX real stamp) i d.ys).set i { x with base:=if stamp<0 then real else min real stamp })[i]?=some { x with base:=if stamp<0 then real else min real stamp }:=List.getElem?_set_self (by omega);have D2:=D1.spent (r:=R) hR uget1 (-1);simp only[List.set_set] at D2;have uset:(updN (startX real stamp) i d.ys).set i { x with base:=if stamp<0 then real else min real stamp,spent:=-1 }=updN (startX real stamp) (i+1) d.ys:=uset;rw[uset] at D2;have hs:((updN (startX real stamp) i d.ys).set i { x with base:=if stamp<0 then real else min real stamp }).flatMap spentc=(updN (startX real stamp) i d.ys).flatMap spentc:=flat_same (f:=spentc) spentc_len (by omega) uget rfl;rw[hs] at D2;have w1:(i+1<=((updN (startX real stamp) i d.ys).flatMap basec).length)=True:=eq_true (by rw[chunk_len basec_len,ul]; omega);have w2:(i+1<=((updN (startX real stamp) i d.ys).flatMap spentc).length)=True:=eq_true (by rw[chunk_len spentc_len,ul]; omega);have xb:=DX.blk;have xb1:∀y,(X.set R.b y)[db]?=_:=fun y=>(set_ne (by omega)).trans xb;have b4':∀y,(X.set R.b y)[R.p]?=_:=fun y=>(set_ne (by omega)).trans b4;simp only[DK.cs,CD.cs,List.cons_append,List.nil_append,ul,hR,Option.map_some,rv] at xb xb1;simp only[push_cast,lp30_0,g0,g3,g6,g11,hlt,a2,a8,xb,xb1,xw,b3,b4',c61 hE,w1,w2,Nat.mul_one,sureL,simprocAttr];exact⟨_,(by omega:d.ys.length-(i+1)<q),i+1,by omega,D2,fun j j2=>by rw[set_ne (Ne.symm (j2 R hR).2),set_ne (Ne.symm (j2 R hR).1)]; exact xo j j2,by simpa using xl,rfl,rfl⟩
 ·obtain⟨ra,re,hra⟩:=DX.rvl;have hra:rv (d.r.map DR.l) d.ys.length 3=.slice ra d.ys.length re:=by have:=hra; simp only[ul] at this; exact this
  have xb:=DX.blk;simp only[DK.cs,CD.cs,List.cons_append,List.nil_append,ul,hra] at xb;simp only[push_cast,lp30_0,g0,g11,xb,hlt,simprocAttr];have:i=d.ys.length:=by omega
  subst this;rw[updN_all] at DX;exact hP _ X DX xo xl
theorem c30_on {d:DK}{db:Nat}(D:d.In db h)(ha:d.act=true)(a b c e s:Int)(Z:Option ZN):evI E lim (.func 30) [.pointer (some ⟨db,0,none⟩),.agg #[.int .i64 a,.int .i64 b],.agg #[.int .i64 c,.int .i64 e],.int .i64 s,zv Z] h=some (.int .i64 4,h++[.cells true [.int .i64 a,.int .i64 b],.cells true [.int .i64 c,.int .i64 e]]):=by
 have hE:=C.hE;have hb:∀l,(h++l)[db]?=_:=fun l=>get_old D.blk;simp only[DK.cs,CD.cs,List.cons_append,List.nil_append,ha] at hb;rw[hE.fn T30]; simp only[push_cast,ac30,hb,simprocAttr]
theorem c30 {d:DK}{db:Nat}(D:d.In db h)(ha:d.act=false)(hlim:lim<=db)(real mono sreal smono stamp:Int)(Z:Option ZN) :
  PostV (evI E lim (.func 30) [.pointer (some ⟨db,0,none⟩),.agg #[.int .i64 real,.int .i64 mono],.agg #[.int .i64 sreal,.int .i64 smono],.int .i64 stamp,zv Z] h) fun v h'=>v=.int .i64 0/\(d.start real mono smono stamp Z).In db h'/\d.Fr db h h'/\h.length<=h'.length:=by
 have hE:=C.hE;have lD:=D.lt;have k1:∀l,(h++l)[db]?=some (.cells true d.cs):=fun l=>get_old D.blk;have k2:∀x l,(h++l).set db x=h.set db x++l:=fun x l=>set_old lD.1;have k3:∀x l,(h.set db x++l)[db]?=some x:=fun x l=>get_old (set_get lD.1);have k6:∀x y l,(h.set db x++l).set db y=h.set db y++l:=fun x y l=>by rw[set_old (by simpa using lD.1),List.set_set]
 have x6:∀q:Prop,(lim<=db\/q)=True:=fun q=>by simp[hlim]
 have k4:∀x (l:Hp),(h.set db x++l)[h.length]?=l[0]?:=fun x l=>get_appC0 (by simp);have k5:∀x (l:Hp) k,(h.set db x++l)[h.length+k]?=l[k]?:=fun x l k=>get_appC (by simp);obtain⟨p,hp⟩:=zv_ptr Z;obtain⟨d1,hd1⟩:∃d1:DK,d1={ d with act:=true,k:={ d.k with st:=smono,ac:=mono,z:=Z },clk:=-1,zon:=-1 }:=⟨_,rfl⟩;have D1:∀l,d1.In db (h.set db (.cells true d1.cs)++l):=fun l=>(D.put (d2:=d1) (by rw[hd1]) (by rw[hd1]) (by rw[hd1]; exact D.acc)).of fun j hj=>get_lt hj;have hd2:({ d1 with ys:=d1.ys.map (startX real stamp) }:DK)=d.start real mono smono stamp Z:=by rw[hd1]; rfl
 have er:d1.r=d.r:=by rw[hd1]
 obtain⟨Y,hY⟩:∃Y,Y=d1.cs:=⟨_,rfl⟩;have hY':=hY;rw[hd1] at hY';rw[hp];simp only[DK.cs,CD.cs,List.cons_append,List.nil_append,ha,hp] at k1 hY';rw[hE.fn T30]; simp only[push_cast,ac30,k1,k2,k3,k4,k5,k6,x6,sureL,simprocAttr];rw[<- hY',hY];refine loop30 C (D1 _) (real:=real) (mono:=mono) (stamp:=stamp) (n0:=h.length) ?_ ?_ (by simp) (by simp) (by simp) (by simp) ?_
 ·rw[get_appC0 (by simp)]; rfl
 ·intro r hr;rw[er] at hr;have:=lD.2 r hr;have T:=D.row;rw[hr] at T;omega
 ·rw[hd2];intro f X q1 q2 q3;simp only[push_cast,simprocAttr];refine⟨q1,fun j j1 j2 j3=>?_,?_⟩
  ·rw[q2 j (by rw[er]; exact j3),get_lt (by simpa using j1),set_ne (Ne.symm j2)]
  ·simp at q3; omega
theorem loop32 {d:DK}{db:Nat}{X0:Hp}(D0:d.In db X0){real mono:Int}{n0:Nat}(w0:X0[n0]?=some (.cells true [.int .i64 real,.int .i64 mono]))(hn0:∀r,d.r=some r->n0≠r.b/\n0≠r.p){v2 v4:Value}
  {f:Fr}(f0:f.rd 0=.pointer (some ⟨db,0,none⟩))(f2:f.rd 2=v2)(f3:f.rd 3=.bool true)(f4:f.rd 4=v4)(f6:f.rd 6=.pointer (some ⟨n0,0,none⟩))(f10:f.rd 10=.int .i64 0){P:AX->Fr->Hp->Prop}
  (hP:∀f' X,({ d with ys:=d.ys.map (jumpX real) }:DK).In db X->(∀j,(∀r,d.r=some r->j≠r.b/\j≠r.p)->X[j]?=X0[j]?)->X.length=X0.length->f'.rd 0=.pointer (some ⟨db,0,none⟩)->f'.rd 2=v2->f'.rd 3=.bool true->f'.rd 4=v4->f'.rd 6=.pointer (some ⟨n0,0,none⟩)->P (.exit 0) f' X):Post (evK E lim (.loop lp32_0) f X0) P:=by
 have hE:=C.hE
 refine loop_post hE.mono (fun q g X=>∃(i:Nat),i<=d.ys.length/\({ d with ys:=updN (jumpX real) i d.ys }:DK).In db X/\(∀j,(∀r,d.r=some r->j≠r.b/\j≠r.p)->X[j]?=X0[j]?)/\X.length=X0.length /\
  g.rd 0=.pointer (some ⟨db,0,none⟩)/\g.rd 2=v2/\g.rd 3=.bool true/\g.rd 4=v4/\g.rd 6=.pointer (some ⟨n0,0,none⟩)/\g.rd 10=.int .i64 i/\d.ys.length-i=q) ?_ d.ys.length _ _ ⟨0,Nat.zero_le _,D0,fun _ _=>rfl,rfl,f0,f2,f3,f4,f6,f10,rfl⟩
 clear f0 f2 f3 f4 f6 f10;rintro q g X ⟨i,hi,DX,xo,xl,g0,g2,g3,g4,g6,g10,hq⟩;have hn:=D0.n;have ul:=updN_len (jumpX real) i d.ys;have xw:=(xo n0 hn0).trans w0
 by_cases hlt:(i:Int)<d.ys.length
 ·have hi':i<d.ys.length:=by omega
  obtain⟨x,hxi⟩:∃x,d.ys[i]?=some x:=⟨_,List.getElem?_eq_getElem hi'⟩;have uget:=updN_get (u:=jumpX real) hxi;have uset:=updN_set (u:=jumpX real) hxi;have a2:(0<=(i:Int))=True:=by simp
  have a8:=wn1 (i:=i);obtain⟨R,hR,n1,n2,n3,n4,b1,b2,b3,b4⟩:=DX.get uget;have hR:d.r=some R:=hR;simp only at b1 b2 b3 b4;have D1:=DX.base (r:=R) hR uget (min x.base real);simp only at D1;have uset:(updN (jumpX real) i d.ys).set i { x with base:=min x.base real }=updN (jumpX real) (i+1) d.ys:=uset;rw[uset] at D1;have w1:(i+1<=((updN (jumpX real) i d.ys).flatMap basec).length)=True:=eq_true (by rw[chunk_len basec_len,ul]; omega);have u3:((updN (jumpX real) i d.ys).flatMap basec)[i]?=some (.int .i64 x.base):=get1 (by have:=chunk_get basec_len _ _ _ uget; rwa [Nat.mul_one] at this);have xb:=DX.blk;simp only[DK.cs,CD.cs,List.cons_append,List.nil_append,ul,hR,Option.map_some,rv] at xb;simp only[push_cast,lp32_0,g0,g2,g3,g4,g6,g10,hlt,a2,a8,xb,xw,b3,u3,w1,Nat.mul_one,sureL,simprocAttr];exact⟨_,(by omega:d.ys.length-(i+1)<q),i+1,by omega,D1,fun j j2=>by rw[set_ne (Ne.symm (j2 R hR).1)]; exact xo j j2,by simpa using xl,rfl,rfl⟩
 ·obtain⟨ra,re,hra⟩:=DX.rvl;have hra:rv (d.r.map DR.l) d.ys.length 3=.slice ra d.ys.length re:=by have:=hra; simp only[ul] at this; exact this
  have xb:=DX.blk;simp only[DK.cs,CD.cs,List.cons_append,List.nil_append,ul,hra] at xb;simp only[push_cast,lp32_0,g0,g3,g10,xb,hlt,simprocAttr];have:i=d.ys.length:=by omega
  subst this;rw[updN_all] at DX;refine hP _ X DX xo xl ?_ ?_ ?_ ?_ ?_<;>first | assumption | simp only[push_cast,g0,g2,g3,g4,g6,simprocAttr]
theorem c32_off {d:DK}{db:Nat}(D:d.In db h)(ha:d.act=false)(real mono:Int)(Z:Option ZN)(j zd:Bool):evI E lim (.func 32) [.pointer (some ⟨db,0,none⟩),.agg #[.int .i64 real,.int .i64 mono],zv Z,.bool j,.bool zd] h=some (undef,h++[.cells true [.int .i64 real,.int .i64 mono]]):=by
 have hE:=C.hE;have hb:∀l,(h++l)[db]?=_:=fun l=>get_old D.blk;simp only[DK.cs,CD.cs,List.cons_append,List.nil_append,ha] at hb;rw[hE.fn T32]; simp only[push_cast,ac32,hb,simprocAttr];rfl
theorem c32 {d:DK}{db:Nat}(D:d.In db h)(ha:d.act=true)(hlim:lim<=db)(real mono:Int)(Z:Option ZN)(j zd:Bool) :
  PostV (evI E lim (.func 32) [.pointer (some ⟨db,0,none⟩),.agg #[.int .i64 real,.int .i64 mono],zv Z,.bool j,.bool zd] h) fun v h'=>v=undef/\((d.clkS real j).zonS real Z zd).In db h'/\d.Fr db h h'/\h.length<=h'.length:=by
 have hE:=C.hE;have lD:=D.lt;obtain⟨p,hp⟩:=zv_ptr Z;rw[hp];have hb:∀l,(h++l)[db]?=_:=fun l=>get_old D.blk;simp only[DK.cs,CD.cs,List.cons_append,List.nil_append,ha] at hb;have x6:∀q:Prop,(lim<=db\/q)=True:=fun q=>by simp[hlim]
 refine post_fn hE T32 (Nat.le_of_ble_eq_true rfl) ?_;show Post (evK E lim ac32 _ _) _;unfold ac32;refine post_mid hE.mono (fun g W=>h++[.cells true [.int .i64 real,.int .i64 mono]]=W/\g.rd 0=.pointer (some ⟨db,0,none⟩)/\g.rd 2=.pointer p/\g.rd 3=.bool j/\g.rd 4=.bool zd/\g.rd 6=.pointer (some ⟨h.length,0,none⟩)) (by simp only[push_cast,simprocAttr]) ?_;rintro g W ⟨rfl,g0,g2,g3,g4,g6⟩;refine post_mid hE.mono (fun g W=>h++[.cells true [.int .i64 real,.int .i64 mono]]=W/\g.rd 0=.pointer (some ⟨db,0,none⟩)/\g.rd 2=.pointer p/\g.rd 3=.bool j/\g.rd 4=.bool zd/\g.rd 6=.pointer (some ⟨h.length,0,none⟩)) (by simp only[push_cast,hb,g0,g2,g3,g4,g6,simprocAttr]) ?_;clear g0 g2 g3 g4 g6 g;rintro g W ⟨rfl,g0,g2,g3,g4,g6⟩
 have nr:∀r,d.r=some r->h.length≠r.b/\h.length≠r.p:=fun r hr=>by
  have:=lD.2 r hr;have T:=D.row;rw[hr] at T;omega
 refine post_mid hE.mono (fun g X=>({ d with ys:=if j=true then d.ys.map (jumpX real) else d.ys }:DK).In db X/\(∀i,i<h.length+1->(∀r,d.r=some r->i≠r.b/\i≠r.p)->X[i]?=(h++[Blk.cells true [.int .i64 real,.int .i64 mono]])[i]?)/\h.length+1<=X.length /\
   g.rd 0=.pointer (some ⟨db,0,none⟩)/\g.rd 2=.pointer p/\g.rd 3=.bool j/\g.rd 4=.bool zd/\g.rd 6=.pointer (some ⟨h.length,0,none⟩)) ?_ ?_
 ·have D1:d.In db (h++[Blk.cells true [.int .i64 real,.int .i64 mono]]):=D.of fun j hj=>get_lt hj;cases j with
  | false =>
   have T:=D.row;obtain⟨ra,re,hra⟩:=D.rvl;rw[hra] at hb;simp only[push_cast,g0,g2,g3,g4,g6,evK_loop' hE.mono,lp32_0,hb,simprocAttr];exact D1
  | true =>
   simp only[push_cast,g0,g2,g3,g4,g6,simprocAttr];refine loop32 C D1 (real:=real) (mono:=mono) get_app0 nr (v2:=.pointer p) (v4:=.bool zd) (by simp[g0]) (by simp[g2]) (by simp[g3]) (by simp[g4]) (by simp[g6]) (by simp) ?_;intro f X q1 q2 q3 q4 q5 q6 q7 q8;simp only[push_cast,q4,q5,q6,q7,q8,simprocAttr];exact⟨q1,fun i _ hi=>q2 i hi,by rw[q3]; simp⟩
 clear g0 g2 g3 g4 g6 g;rintro g X ⟨D1,xo,xl,g0,g2,g3,g4,g6⟩;have fr:∀i,i<h.length->(∀r,d.r=some r->i≠r.b/\i≠r.p)->X[i]?=h[i]?:=fun i i1 i2=>(xo i (by omega) i2).trans (get_lt i1);have xn:X[h.length]?=some (.cells true [.int .i64 real,.int .i64 mono]):=(xo _ (by omega) nr).trans get_app0;obtain⟨d1,hd1⟩:∃d1:DK,d1={ d with ys:=if j=true then d.ys.map (jumpX real) else d.ys }:=⟨_,rfl⟩;rw[<- hd1] at D1;have e1:d1.c=d.c/\d1.r=d.r:=by rw[hd1]; exact⟨rfl,rfl⟩
 obtain⟨e1,e2⟩:=e1
 refine post_mid hE.mono (fun g X=>(d.clkS real j).In db X/\(∀i,i<h.length->i≠db->(∀r,d.r=some r->i≠r.b/\i≠r.p)->X[i]?=h[i]?)/\X[h.length]?=some (.cells true [.int .i64 real,.int .i64 mono]) /\
   g.rd 0=.pointer (some ⟨db,0,none⟩)/\g.rd 2=.pointer p/\g.rd 4=.bool zd/\g.rd 6=.pointer (some ⟨h.length,0,none⟩)) ?_ ?_
 ·cases j with
  | false =>
   have hd:d.clkS real false=d1:=by rw[hd1]; rfl
   rw[hd];simp only[push_cast,g0,g2,g3,g4,g6,simprocAttr];exact⟨D1,fun i i1 _ i3=>fr i i1 i3,xn⟩
  | true =>
   have xb:=D1.blk;have lX:=lt_of_get xb;cases hoc:d.c.oc with
   | false =>
    have hd:d.clkS real true=d1:=by rw[hd1]; unfold DK.clkS; rw[hoc]; rfl
    rw[hd];simp only[DK.cs,CD.cs,List.cons_append,List.nil_append,e1,hoc] at xb;simp only[push_cast,g0,g2,g3,g4,g6,xb,simprocAttr];exact⟨D1,fun i i1 _ i3=>fr i i1 i3,xn⟩
   | true =>
    have hd:d.clkS real true={ d1 with clk:=real }:=by rw[hd1]; unfold DK.clkS; rw[hoc]; rfl
    rw[hd];have D2:=D1.put (d2:={ d1 with clk:=real }) rfl rfl D1.acc;obtain⟨Y,hY⟩:∃Y,Y=({ d1 with clk:=real }:DK).cs:=⟨_,rfl⟩;rw[<- hY] at D2;simp only[DK.cs,CD.cs,List.cons_append,List.nil_append,e1,hoc] at xb hY;simp only[push_cast,g0,g2,g3,g4,g6,xb,xn,simprocAttr];rw[<- hY];exact⟨D2,fun i i1 i2 i3=>(set_ne (Ne.symm i2)).trans (fr i i1 i3),(set_ne (by omega)).trans xn⟩
 clear g0 g2 g3 g4 g6 g D1 xo xl fr xn hd1 e1 e2 X;rintro g X ⟨D1,fr,xn,g0,g2,g4,g6⟩;have ec:(d.clkS real j).c=d.c:=by unfold DK.clkS; split<;>rfl
 generalize d.clkS real j=d1 at *;have ln:=lt_of_get xn;cases zd with
 | false =>
  simp only[push_cast,g0,g2,g4,g6,simprocAttr];exact⟨rfl,D1,fr,by omega⟩
 | true =>
  have xb:=D1.blk;have lX:=lt_of_get xb;cases hoz:d1.c.oz with
  | false =>
   have hd:d1.zonS real Z true={ d1 with k:={ d1.k with z:=Z } }:=by unfold DK.zonS; rw[hoz]; rfl
   rw[hd];have D2:=D1.put (d2:={ d1 with k:={ d1.k with z:=Z } }) rfl rfl D1.acc;obtain⟨Y,hY⟩:∃Y,Y=({ d1 with k:={ d1.k with z:=Z } }:DK).cs:=⟨_,rfl⟩;rw[<- hY] at D2;simp only[DK.cs,CD.cs,List.cons_append,List.nil_append,hoz,hp] at xb hY;simp only[push_cast,g0,g2,g4,g6,xb,x6,set_get lX,simprocAttr];rw[<- hY];exact⟨rfl,D2,fun i i1 i2 i3=>(set_ne (Ne.symm i2)).trans (fr i i1 i2 i3),by first | omega | (simp; omega)⟩
  | true =>
   have hd:d1.zonS real Z true={ d1 with k:={ d1.k with z:=Z },zon:=real }:=by unfold DK.zonS; rw[hoz]; rfl
   rw[hd];have D2:=D1.put (d2:={ d1 with k:={ d1.k with z:=Z },zon:=real }) rfl rfl D1.acc;obtain⟨Y,hY⟩:∃Y,Y=({ d1 with k:={ d1.k with z:=Z },zon:=real }:DK).cs:=⟨_,rfl⟩;rw[<- hY] at D2;simp only[DK.cs,CD.cs,List.cons_append,List.nil_append,hoz,hp] at xb hY;have xn2:∀y,(X.set db y)[h.length]?=some (.cells true [.int .i64 real,.int .i64 mono]):=fun y=>(set_ne (by omega)).trans xn;simp only[push_cast,g0,g2,g4,g6,xb,x6,set_get lX,xn2,simprocAttr];rw[<- hY];exact⟨rfl,D2,fun i i1 i2 i3=>(set_ne (Ne.symm i2)).trans (fr i i1 i2 i3),by first | omega | (simp; omega)⟩
end
section
open Tb
def dcs (c:CD)(lv:Int)(vl vs vb vp:Value):List Value:=[.slice c.ta c.gs.length c.te,.int .i64 c.acc,.int .i64 c.rnd,.bool c.per,.bool c.oc,.bool c.oz,.string c.un,.string c.nm,.int .u8 (c.k 0),.int .u8 (c.k 1),.int .u8 (c.k 2),.int .u8 (c.k 3),.int .u8 (c.k 4),.int .u8 (c.k 5),.int .u8 (c.k 6),.int .u8 (c.k 7),.int .u8 (c.k 8),.int .u8 (c.k 9),.int .u8 (c.k 10),.int .u8 (c.k 11),.int .u8 (c.k 12),.int .u8 (c.k 13),.int .u8 (c.k 14),.int .u8 (c.k 15),
 .slice c.z.ta c.z.tn c.z.te,.slice c.z.ma c.z.mn c.z.me,.slice c.z.xa c.z.xn c.z.xe,.string c.z.ft,vl,vs,.int .i64 lv,.bool false,.int .i64 (-1),.int .i64 (-1),.int .i64 0,.int .i64 0,vb,vp,.pointer none,.int .i64 (-1),.int .i64 (-1)]
def RowAt (A:Hp)(b:Option Nat)(L:List Value):Prop:=match b with
 | none=>L=[]
 | some b=>A[b]?=some (.cells true L)
theorem RowAt.of {A X:Hp}{b:Option Nat}{L:List Value}(H:RowAt A b L)(h:∀j,b=some j->j<A.length->X[j]?=A[j]?):RowAt X b L:=by
 cases b with
 | none=>exact H
 | some b=>exact(h b rfl (lt_of_get H)).trans H
def dk0 (c:CD)(lv:Int)(r:Option DR)(ys:List TK):DK:=⟨c,⟨lv,c.acc,0,0,-1,-1,none⟩,false,r,ys,-1,-1⟩
theorem dk0_cs (c:CD)(lv:Int)(r:Option DR)(ys:List TK):(dk0 c lv r ys).cs=dcs c lv (rv (r.map DR.l) ys.length 3) (rv (r.map DR.s) ys.length 9) (rv (r.map DR.b) ys.length 1) (rv (r.map DR.p) ys.length 1):=rfl
theorem take3_at {l:List Value}{i:Nat}{g:TG}(h:(l.drop i).take 3=g.cs):(l.drop i).take 3=[.int .u8 g.kind,.int .i64 g.span,.string g.text]:=h
variable {E:Env}(C:Conds E){lim:Nat}{h H0:Hp}{F:Nat->Prop}
include C
theorem c29 {c:CD}(H:c.In h)(hn:c.gs.length<=1000)(hnm:c.nm.size<1000000000)(hlim:lim<=h.length) :
  PostV (evI E lim (.func 29) [.agg c.cs.toArray] h) fun v h'=>∃(r:Option DR) (ys:List TK) (db:Nat),v=.pointer (some ⟨db,0,none⟩)/\(dk0 c (lateV E c.key c.nm c.rnd) r ys).In db h'/\Agr h h'/\h.length<db/\(ys.map TK.raw=c.gs.filter (keepG E)/\∀y∈ys,y.base=0/\y.spent=-1)/\∀R,r=some R->∀x∈ys,Spx E h' x db R.l:=by
 have hE:=C.hE;have gk:∀j,j<c.gs.length->∃g,c.gs[j]?=some g/\c.gs.getD j default=g:=fun j hj=>⟨c.gs[j],List.getElem?_eq_getElem hj,by rw[List.getD_eq_getElem?_getD,List.getElem?_eq_getElem hj]; rfl⟩;obtain⟨eL,-,-,-,-⟩:=late_is C c.keyOk c.nm hnm H.rnd.2;obtain⟨lv,hlv⟩:∃n,lateV E c.key c.nm c.rnd=n:=⟨_,rfl⟩;rw[hlv] at eL ⊢;simp only[CD.key] at eL;obtain⟨db,hdb⟩:∃db,db=h.length+1:=⟨_,rfl⟩;have x6:∀q:Prop,(lim<=db\/q)=True:=fun q=>by first | omega | (simp; omega)
 refine post_fn hE T29 (Nat.le_of_ble_eq_true rfl) ?_;show Post (evK E lim ac29 _ _) _;unfold ac29;refine post_mid hE.mono (fun g W=>h++[.cells true c.cs]=W/\g.rd 1=.pointer (some ⟨h.length,0,none⟩)) (by simp only[push_cast,CD.cs,simprocAttr]) ?_;rintro g W ⟨rfl,g1⟩;have hC:∀l,(h++(Blk.cells true c.cs::l))[h.length]?=some (.cells true c.cs):=fun l=>get_app0;have hC0:=hC [];refine post_mid hE.mono (fun g W=>h++[.cells true c.cs,.cells true (dk0 c lv none []).cs]=W/\g.rd 1=.pointer (some ⟨h.length,0,none⟩)/\g.rd 3=.pointer (some ⟨db,0,none⟩)) ?_ ?_
 ·rw[dk0_cs];simp only[CD.cs] at hC0;simp only[hdb,dcs,Option.map_none,List.length_nil,rv_none];simp only[push_cast,g1,hC0,eL,sureL,CD.cs,bytes_refl,simprocAttr]
 clear g1 g;rintro g W ⟨rfl,g1,g3⟩;refine post_mid hE.mono (fun g X=>∃(ys:List TK) (r:Option DR),(dk0 c lv r ys).In db X/\(∀R,r=some R->∀x∈ys,Spx E X x db R.l)/\(ys.map TK.raw=c.gs.filter (keepG E)/\∀y∈ys,y.base=0/\y.spent=-1)/\(∀j,j<h.length->X[j]?=h[j]?)/\g.rd 3=.pointer (some ⟨db,0,none⟩)) ?_ ?_
 case refine_2 =>
  clear g1 g3 g;rintro g X ⟨ys,r,D,sp,yr,xo,g3⟩;simp only[push_cast,g3,simprocAttr];refine⟨r,ys,db,rfl,D,fun j k e=>(xo j (lt_of_get e)).trans e,by omega,yr,sp⟩
 simp only[push_cast,g1,g3,simprocAttr]
 refine loop_post hE.mono (fun q g X=>∃(i:Nat) (ys:List TK) (r:Option DR),i<=c.gs.length/\(dk0 c lv r ys).In db X/\(∀R,r=some R->∀x∈ys,Spx E X x db R.l)/\(ys.map TK.raw=(c.gs.take i).filter (keepG E)/\∀y∈ys,y.base=0/\y.spent=-1)/\(∀j,j<h.length->X[j]?=h[j]?)/\X[h.length]?=some (.cells true c.cs) /\
  g.rd 1=.pointer (some ⟨h.length,0,none⟩)/\g.rd 3=.pointer (some ⟨db,0,none⟩)/\g.rd 4=.int .i64 i/\c.gs.length-i=q) ?_ c.gs.length _ _ ⟨0,[],none,Nat.zero_le _,⟨by rw[hdb,get_app]; rfl,rfl,rfl,by simp[dk0]⟩,(fun R e=>by cases e),⟨rfl,fun y hy=>by cases hy⟩,fun j hj=>get_lt hj,hC _,by simp[g1],by simp[g3],by simp,rfl⟩
 clear g1 g3 g;rintro q g X ⟨i,ys,r,hi,D,sp,yr,xo,xc,g1,g3,g4,hq⟩
 by_cases hlt:(i:Int)<c.gs.length
 case neg =>
  simp only[CD.cs] at xc;simp only[push_cast,lp29_0,g1,g3,g4,xc,hlt,simprocAttr];have:i=c.gs.length:=by omega
  subst this;rw[List.take_length] at yr;exact⟨ys,r,D,sp,yr,xo⟩
 have hi':i<c.gs.length:=by omega
 obtain⟨gg,hg1,hg2⟩:=gk i hi';have ysl:ys.length<=1000:=D.n
 have ysl':ys.length<=i:=by
  have:=congrArg List.length yr.1;rw[List.length_map] at this;have h2:=List.length_filter_le (keepG E) (c.gs.take i);simp at h2;omega
 have S:=H.row;rcases S with⟨s1,s2,s3⟩ | ⟨b0,o,own,cs,s1,s2,s3,s4,s5⟩
 ·omega
 have a3:(cs.drop (o+i*3)).take 3=gg.cs:=by rw[s5 i hi']; exact congrArg TG.cs hg2
 have a4:(o+i*3+3<=cs.length)=True:=eq_true (by omega);have a2:(0<=(i:Int))=True:=by simp
 have a8:=wn1 (i:=i);have x3:=(xo b0 (lt_of_get s3)).trans s3;have a3:=take3_at a3;have lX:=D.lt
 have t_len:(c.gs.take (i+1)).filter (keepG E)=(c.gs.take i).filter (keepG E)++(if keepG E gg=true then[gg] else[]):=by
  rw[List.take_add_one,hg1,List.filter_append]
  congr 1
  simp only[Option.toList,List.filter_cons,List.filter_nil]
 unfold lp29_0;refine post_mid hE.mono (fun g X'=>X'=X/\g.rd 1=.pointer (some ⟨h.length,0,none⟩)/\g.rd 3=.pointer (some ⟨db,0,none⟩)/\g.rd 4=.int .i64 i) ?_ ?_
 ·simp only[CD.cs] at xc;simp only[push_cast,g1,g3,g4,xc,hlt,simprocAttr]
 clear g1 g3 g4 g;rintro g X' ⟨rfl,g1,g3,g4⟩
 refine post_mid hE.mono (fun g X=>∃(ys:List TK) (r:Option DR),(dk0 c lv r ys).In db X/\(∀R,r=some R->∀x∈ys,Spx E X x db R.l)/\(ys.map TK.raw=(c.gs.take (i+1)).filter (keepG E)/\∀y∈ys,y.base=0/\y.spent=-1)/\(∀j,j<h.length->X[j]?=h[j]?)/\X[h.length]?=some (.cells true c.cs) /\
  g.rd 1=.pointer (some ⟨h.length,0,none⟩)/\g.rd 3=.pointer (some ⟨db,0,none⟩)/\g.rd 4=.int .i64 i) ?_ ?_
 case refine_2 =>
  clear g1 g3 g4 g;rintro g X ⟨ys,r,D,sp,yr,xo,xc,g1,g3,g4⟩;simp only[push_cast,g4,a8,simprocAttr];exact⟨_,(by omega:c.gs.length-(i+1)<q),i+1,ys,r,by omega,D,sp,yr,xo,xc,by simp[g1],by simp[g3],by simp,rfl⟩
 refine post_blk hE.mono ?_;refine post_mid hE.mono (fun g W=>X'++[.cells true gg.cs]=W/\g.rd 1=.pointer (some ⟨h.length,0,none⟩)/\g.rd 3=.pointer (some ⟨db,0,none⟩)/\g.rd 4=.int .i64 i/\g.rd 5=.pointer (some ⟨X'.length,0,none⟩)) ?_ ?_
 ·have xc':=xc;simp only[CD.cs,s1,s2] at xc';simp only[TG.cs];simp only[push_cast,g1,g3,g4,xc',x3,a2,a3,a4,hlt,simprocAttr]
 clear g1 g3 g4 g;rintro g W ⟨rfl,g1,g3,g4,g5⟩;obtain⟨v,h1,e16,s,rfl,A,sI,sB,sO⟩:=(parse_is C (lim:=lim) (h:=X'++[.cells true gg.cs]) gg.text (by first | omega | (simp; omega))).out;have Al:=A.le;have Al':X'.length+1<=h1.length:=by simpa using Al
 have x1:∀j,j<X'.length->h1[j]?=X'[j]?:=fun j hj=>by rw[eqAgr A (by first | omega | (simp; omega)),get_lt hj]
 have z0:h1[X'.length]?=some (.cells true gg.cs):=A _ _ get_app0;have zz:(X'++[Blk.cells true gg.cs])[X'.length]?=some (.cells true gg.cs):=get_app0;have e16o:=e16;refine post_mid hE.mono (fun g W=>h1++[.cells true s.cv]=W/\g.rd 1=.pointer (some ⟨h.length,0,none⟩)/\g.rd 3=.pointer (some ⟨db,0,none⟩)/\g.rd 4=.int .i64 i/\g.rd 5=.pointer (some ⟨X'.length,0,none⟩)/\g.rd 6=.pointer (some ⟨h1.length,0,none⟩)/\g.rd 7=.int .i64 (parseE E gg.text)) ?_ ?_
 ·have x61:∀q:Prop,(lim<=h1.length\/q)=True:=fun q=>by first | omega | (simp; omega)
  generalize hW:X'++[Blk.cells true gg.cs]=W at zz e16 ⊢;simp only[TG.cs] at zz;simp only[SD.cv] at e16 ⊢;simp only[push_cast,g1,g3,g4,g5,zz,e16,x61,simprocAttr]
 clear g1 g3 g4 g5 g;rintro g W ⟨rfl,g1,g3,g4,g5,g6,g7⟩;obtain⟨A0,hA0⟩:∃A0,A0=h1++[Blk.cells true s.cv]:=⟨_,rfl⟩;have lA0:A0.length=h1.length+1:=by rw[hA0]; simp
 have o0:∀j,j<X'.length->A0[j]?=X'[j]?:=fun j hj=>by rw[hA0,get_lt (by omega)]; exact x1 j hj
 have o1:∀j,j<h1.length->A0[j]?=h1[j]?:=fun j hj=>by rw[hA0,get_lt hj]
 have D0:(dk0 c lv r ys).In db A0:=D.of o0;have c5:A0[X'.length]?=some (.cells true gg.cs):=(o1 _ (by omega)).trans z0;have c6:A0[h1.length]?=some (.cells true s.cv):=by rw[hA0]; exact get_app0
 have spx:∀Y,(∀j,X'.length<j->j<h1.length->Y[j]?=h1[j]?)->∀m,h1.length<=m->Spx E Y ⟨gg.kind,gg.span,gg.text,s,0,-1⟩ db m:=fun Y hY m hm=>by
  refine⟨X'.length+1,h1.length,⟨lim,_,h1,parseE E gg.text,e16o,by first | omega | (simp; omega),by simp,rfl,fun j j1 j2=>hY j (by omega) j2⟩,sI.on sO fun j j1 j2=>hY j (by simp at j1; omega) j2,sB,by have:=sO; simpa using this,by show db<X'.length+1; omega,by omega⟩
 rw[<- hA0];clear hA0 e16 e16o zz x1 z0;refine post_mid hE.mono (fun g W=>W=A0/\g.rd 1=.pointer (some ⟨h.length,0,none⟩)/\g.rd 3=.pointer (some ⟨db,0,none⟩)/\g.rd 4=.int .i64 i/\g.rd 5=.pointer (some ⟨X'.length,0,none⟩)/\g.rd 6=.pointer (some ⟨h1.length,0,none⟩)/\g.rd 45=.bool (keepG E gg)) ?_ ?_
 ·unfold keepG;simp only[TG.cs] at c5;cases hk1:(gg.kind==1) with
  | false=>simp only[push_cast,g1,g3,g4,g5,g6,g7,c5,hk1,simprocAttr]
  | true =>
   cases hk2:(parseE E gg.text==0) with
   | false=>simp only[push_cast,g1,g3,g4,g5,g6,g7,c5,hk1,hk2,simprocAttr]
   | true=>simp only[push_cast,g1,g3,g4,g5,g6,g7,c5,hk1,hk2,simprocAttr]
 clear g1 g3 g4 g5 g6 g7 g;rintro g A0 ⟨rfl,g1,g3,g4,g5,g6,g45⟩;have xoA:∀j,j<h.length->A0[j]?=h[j]?:=fun j hj=>(o0 j (by omega)).trans (xo j hj);have xcA:A0[h.length]?=some (.cells true c.cs):=(o0 _ (by omega)).trans xc;cases hkeep:keepG E gg with
 | false =>
  rw[hkeep] at g45;simp only[push_cast,g1,g3,g4,g45,simprocAttr];refine⟨ys,r,D0,fun R hR x hx=>(sp R hR x hx).of (fun j j1 j2=>o0 j ?_) (Nat.le_refl _),⟨by rw[t_len,hkeep]; simpa using yr.1,yr.2⟩,xoA,xcA⟩;have T:=D.row;have:=lX.2 R hR;rw[show(dk0 c lv r ys).r=some R from hR] at T;omega
 | true =>
 rw[hkeep] at g45
 have tl2:(ys++[(⟨gg.kind,gg.span,gg.text,s,0,-1⟩:TK)]).map TK.raw=(c.gs.take (i+1)).filter (keepG E)/\∀y∈ys++[(⟨gg.kind,gg.span,gg.text,s,0,-1⟩:TK)],y.base=0/\y.spent=-1:=⟨by rw[t_len,hkeep,List.map_append,yr.1]; rfl,fun y hy=>by
  rcases List.mem_append.1 hy with hy | hy
  ·exact yr.2 y hy
  ·rw[List.mem_singleton.1 hy]; exact⟨rfl,rfl⟩⟩
 obtain⟨bl,hbl⟩:∃b,r.map DR.l=b:=⟨_,rfl⟩;obtain⟨bs,hbs⟩:∃b,r.map DR.s=b:=⟨_,rfl⟩;obtain⟨bb,hbb⟩:∃b,r.map DR.b=b:=⟨_,rfl⟩;obtain⟨bp,hbp⟩:∃b,r.map DR.p=b:=⟨_,rfl⟩
 have rows:RowAt A0 bl (ys.flatMap rawc)/\RowAt A0 bs (ys.flatMap specc)/\RowAt A0 bb (ys.flatMap basec)/\RowAt A0 bp (ys.flatMap spentc)/\(∀j,bl=some j\/bs=some j\/bb=some j\/bp=some j->db<j/\j<X'.length/\(∀R,r=some R->R.l<=j))/\(∀j,bl=some j->bs≠some j/\bb≠some j/\bp≠some j)/\(∀j,bs=some j->bb≠some j/\bp≠some j)/\(∀j,bb=some j->bp≠some j):=by
  have T:=D0.row;subst hbl hbs hbb hbp;cases hr:r with
  | none =>
   rw[show(dk0 c lv r ys).r=none from hr] at T;have T:ys=[]:=T;rw[T];refine⟨rfl,rfl,rfl,rfl,fun j hj=>?_,fun j hj=>(by cases hj),fun j hj=>(by cases hj),fun j hj=>by cases hj⟩;rcases hj with hj | hj | hj | hj<;>cases hj
  | some R =>
   have:=lX.2 R hr;rw[show(dk0 c lv r ys).r=some R from hr] at T;obtain⟨t1,t2,t3,t4,t5,t6,t7,t8⟩:=T;have ne:∀ {a b:Nat},a≠b->(some a:Option Nat)≠some b:=fun h e=>h (by injection e);refine⟨t5,t6,t7,t8,fun j hj=>?_,fun j hj=>?_,fun j hj=>?_,fun j hj=>?_⟩
   ·rcases hj with hj | hj | hj | hj<;>(injection hj with hj; exact⟨by omega,by omega,fun R' e=>by injection e with e; subst e; omega⟩)
   ·injection hj with hj; exact⟨ne (by omega),ne (by omega),ne (by omega)⟩
   ·injection hj with hj; exact⟨ne (by omega),ne (by omega)⟩
   ·injection hj with hj; exact ne (by omega)
 obtain⟨wl,ws,wb,wp,wj,wd1,wd2,wd3⟩:=rows;have ad:=D0.blk;rw[dk0_cs,hbl,hbs,hbb,hbp] at ad;obtain⟨n,hn'⟩:∃n,ys.length=n:=⟨_,rfl⟩;have lL:(ys.flatMap rawc).length=n*3:=by rw[chunk_len rawc_len,hn']
 have lS:(ys.flatMap specc).length=n*9:=by rw[chunk_len specc_len,hn']
 have lB:(ys.flatMap basec).length=n*1:=by rw[chunk_len basec_len,hn']
 have lP:(ys.flatMap spentc).length=n*1:=by rw[chunk_len spentc_len,hn']
 rw[hn'] at ad;clear D0;have y1:∀j,j=X'.length\/j=h1.length->j≠db/\bl≠some j/\bs≠some j/\bb≠some j/\bp≠some j:=fun j hj=>⟨by omega,fun e=>by have:=wj j (.inl e); omega,fun e=>by have:=wj j (.inr (.inl e)); omega,fun e=>by have:=wj j (.inr (.inr (.inl e))); omega,fun e=>by have:=wj j (.inr (.inr (.inr e))); omega⟩;obtain⟨y,hy⟩:∃y:TK,y=⟨gg.kind,gg.span,gg.text,s,0,-1⟩:=⟨_,rfl⟩;rw[<- hy] at tl2 spx;have c5:A0[X'.length]?=some (.cells true (rawc y)):=by rw[hy]; exact c5
 have c6:A0[h1.length]?=some (.cells true (specc y)):=by rw[hy]; exact c6
 have yb:basec y=[.int .i64 0]:=by rw[hy]; rfl
 have yp:spentc y=[.int .i64 (-1)]:=by rw[hy]; rfl
 refine post_ct hE g45 ?_;clear g45;refine post_mid hE.mono (fun g X=>∃nl,X[db]?=some (.cells true (dcs c lv (rv (some nl) (n+1) 3) (rv bs n 9) (rv bb n 1) (rv bp n 1)))/\X[nl]?=some (.cells true (ys.flatMap rawc++rawc y))/\A0.length<=nl/\(∀j,j<A0.length->j≠db->bl≠some j->X[j]?=A0[j]?)/\g.rd 1=.pointer (some ⟨h.length,0,none⟩)/\g.rd 3=.pointer (some ⟨db,0,none⟩)/\g.rd 4=.int .i64 i/\g.rd 6=.pointer (some ⟨h1.length,0,none⟩)) ?_ ?_
 ·have lb:=lt_of_get ad;have r6:∀l z,(A0++l).set db z=A0.set db z++l:=fun l z=>set_old lb;have hn0:(n+1)*32<=140737488355328:=by omega
  have hn1:((n+1)*32<=140737488355328)=True:=eq_true hn0;have hv:=c5;simp only[TK.raw_cs] at hv ⊢;have hv':∀l,(A0++l)[X'.length]?=_:=fun l=>get_old hv;have ad0:=ad;cases bl with
  | none =>
   have e:ys.flatMap rawc=[]:=wl;have n0:n=0:=by rw[e] at lL; simp at lL; omega
   simp only[dcs,rv_none,rv_some] at ad0 ⊢;have ad':∀l,(A0++l)[db]?=_:=fun l=>get_old ad0;simp only[push_cast,g1,g3,g4,g5,g6,ad0,ad',hv,hv',srcOf,x6,r6,hn1,n0,simprocAttr];refine⟨A0.length+1,?_,?_,by omega,fun j j1 j2 _=>by rw[get_lt (by simpa using j1),set_ne (Ne.symm j2)]⟩
   ·rw[get_lt (by simpa using lb),set_get lb]
   ·rw[get_appC (n:=A0.length) (k:=1) (by simp),e]; rfl
  | some b =>
   have wr:A0[b]?=some (.cells true (ys.flatMap rawc)):=wl;have lw:=lt_of_get wr;have hne:b≠db:=by have:=wj b (.inl rfl); omega
   simp only[dcs,rv_some] at ad0 ⊢;have ad':∀l,(A0++l)[db]?=_:=fun l=>get_old ad0;have ad2:∀y l,(A0.set b y++l)[db]?=A0[db]?:=fun y l=>by rw[get_lt (by simpa using lb),set_ne hne]
   have k1:∀l,(A0++l)[b]?=_:=fun l=>get_old wr;have k2:∀l y,(A0++l).set b y=A0.set b y++l:=fun l y=>set_old lw;have k5:∀y l z,(A0.set b y++l).set db z=(A0.set b y).set db z++l:=fun y l z=>set_old (by simpa using lb);have k9:(n*3=(ys.flatMap rawc).length)=True:=eq_true lL.symm;simp only[push_cast,g1,g3,g4,g5,g6,ad0,ad',ad2,hv,hv',srcOf,x6,hn1,k1,k2,k5,k9,simprocAttr];refine⟨A0.length+1,?_,?_,by omega,fun j j1 j2 j3=>by rw[get_lt (by simpa using j1),set_ne (Ne.symm j2),set_ne (fun e=>j3 (by rw[e]))]⟩
   ·rw[get_lt (by simpa using lb),set_get (by simpa using lb)]
   ·rw[get_appC (n:=A0.length) (k:=1) (by simp)]; rfl
 clear g1 g3 g4 g5 g6 g;rintro g A1 ⟨nl,ad1,wl',ln0,fr0,g1,g3,g4,g6⟩;have o2:A0.length<=A1.length:=by have:=lt_of_get wl'; omega
 clear ad; have ad:=ad1; clear ad1;have ws:RowAt A1 bs (ys.flatMap specc):=RowAt.of ws fun j hj j1=>fr0 j j1 (by have:=wj j (.inr (.inl hj)); omega) (fun e=>(wd1 j e).1 hj);have wb:RowAt A1 bb (ys.flatMap basec):=RowAt.of wb fun j hj j1=>fr0 j j1 (by have:=wj j (.inr (.inr (.inl hj))); omega) (fun e=>(wd1 j e).2.1 hj);have wp:RowAt A1 bp (ys.flatMap spentc):=RowAt.of wp fun j hj j1=>fr0 j j1 (by have:=wj j (.inr (.inr (.inr hj))); omega) (fun e=>(wd1 j e).2.2 hj);have c6:A1[h1.length]?=some (.cells true (specc y)):=(fr0 _ (by omega) (y1 _ (.inr rfl)).1 (y1 _ (.inr rfl)).2.1).trans c6;refine post_mid hE.mono (fun g X=>∃ns,X[db]?=some (.cells true (dcs c lv (rv (some nl) (n+1) 3) (rv (some ns) (n+1) 9) (rv bb n 1) (rv bp n 1)))/\X[ns]?=some (.cells true (ys.flatMap specc++specc y))/\A1.length<=ns/\(∀j,j<A1.length->j≠db->bs≠some j->X[j]?=A1[j]?)/\g.rd 1=.pointer (some ⟨h.length,0,none⟩)/\g.rd 3=.pointer (some ⟨db,0,none⟩)/\g.rd 4=.int .i64 i) ?_ ?_
 ·have lb:=lt_of_get ad;have r6:∀l z,(A1++l).set db z=A1.set db z++l:=fun l z=>set_old lb;have hn0:(n+1)*168<=140737488355328:=by omega
  have hn1:((n+1)*168<=140737488355328)=True:=eq_true hn0;have hv:=c6;simp only[specc,SD.cv] at hv ⊢;have hv':∀l,(A1++l)[h1.length]?=_:=fun l=>get_old hv;have ad0:=ad;cases bs with
  | none =>
   have e:ys.flatMap specc=[]:=ws;have n0:n=0:=by rw[e] at lS; simp at lS; omega
   simp only[dcs,rv_none,rv_some] at ad0 ⊢;have ad':∀l,(A1++l)[db]?=_:=fun l=>get_old ad0;simp only[push_cast,g1,g3,g4,g6,ad0,ad',hv,hv',srcOf,x6,r6,hn1,n0,simprocAttr];refine⟨A1.length+1,?_,?_,by omega,fun j j1 j2 _=>by rw[get_lt (by simpa using j1),set_ne (Ne.symm j2)]⟩
   ·rw[get_lt (by simpa using lb),set_get lb]
   ·rw[get_appC (n:=A1.length) (k:=1) (by simp),e]; rfl
  | some b =>
   have wr:A1[b]?=some (.cells true (ys.flatMap specc)):=ws;have lw:=lt_of_get wr;have hne:b≠db:=by have:=wj b (.inr (.inl rfl)); omega
   simp only[dcs,rv_some] at ad0 ⊢;have ad':∀l,(A1++l)[db]?=_:=fun l=>get_old ad0;have ad2:∀y l,(A1.set b y++l)[db]?=A1[db]?:=fun y l=>by rw[get_lt (by simpa using lb),set_ne hne]
   have k1:∀l,(A1++l)[b]?=_:=fun l=>get_old wr;have k2:∀l y,(A1++l).set b y=A1.set b y++l:=fun l y=>set_old lw;have k5:∀y l z,(A1.set b y++l).set db z=(A1.set b y).set db z++l:=fun y l z=>set_old (by simpa using lb);have k9:(n*9=(ys.flatMap specc).length)=True:=eq_true lS.symm;simp only[push_cast,g1,g3,g4,g6,ad0,ad',ad2,hv,hv',srcOf,x6,hn1,k1,k2,k5,k9,simprocAttr];refine⟨A1.length+1,?_,?_,by omega,fun j j1 j2 j3=>by rw[get_lt (by simpa using j1),set_ne (Ne.symm j2),set_ne (fun e=>j3 (by rw[e]))]⟩
   ·rw[get_lt (by simpa using lb),set_get (by simpa using lb)]
   ·rw[get_appC (n:=A1.length) (k:=1) (by simp)]; rfl
 clear g1 g3 g4 g6 g;rintro g A2 ⟨ns,ad1,ws',ln1,fr1,g1,g3,g4⟩;have o3:A1.length<=A2.length:=by have:=lt_of_get ws'; omega
 clear ad; have ad:=ad1; clear ad1;have wb:RowAt A2 bb (ys.flatMap basec):=RowAt.of wb fun j hj j1=>fr1 j j1 (by have:=wj j (.inr (.inr (.inl hj))); omega) (fun e=>(wd2 j e).1 hj);have wp:RowAt A2 bp (ys.flatMap spentc):=RowAt.of wp fun j hj j1=>fr1 j j1 (by have:=wj j (.inr (.inr (.inr hj))); omega) (fun e=>(wd2 j e).2 hj);refine post_mid hE.mono (fun g X=>∃nb,X[db]?=some (.cells true (dcs c lv (rv (some nl) (n+1) 3) (rv (some ns) (n+1) 9) (rv (some nb) (n+1) 1) (rv bp n 1)))/\X[nb]?=some (.cells true (ys.flatMap basec++basec y))/\A2.length<=nb/\(∀j,j<A2.length->j≠db->bb≠some j->X[j]?=A2[j]?)/\g.rd 1=.pointer (some ⟨h.length,0,none⟩)/\g.rd 3=.pointer (some ⟨db,0,none⟩)/\g.rd 4=.int .i64 i) ?_ ?_
 ·have lb:=lt_of_get ad;have r6:∀l z,(A2++l).set db z=A2.set db z++l:=fun l z=>set_old lb;have hn0:(n+1)*8<=140737488355328:=by omega
  have hn1:((n+1)*8<=140737488355328)=True:=eq_true hn0;rw[yb];have ad0:=ad;cases bb with
  | none =>
   have e:ys.flatMap basec=[]:=wb;have n0:n=0:=by rw[e] at lB; simp at lB; omega
   simp only[dcs,rv_none,rv_some] at ad0 ⊢;have ad':∀l,(A2++l)[db]?=_:=fun l=>get_old ad0;simp only[push_cast,g1,g3,g4,ad0,ad',srcOf,x6,r6,hn1,n0,simprocAttr];refine⟨A2.length+1,?_,?_,by omega,fun j j1 j2 _=>by rw[get_lt (by simpa using j1),set_ne (Ne.symm j2)]⟩
   ·rw[get_lt (by simpa using lb),set_get lb]
   ·rw[get_appC (n:=A2.length) (k:=1) (by simp),e]; rfl
  | some b =>
   have wr:A2[b]?=some (.cells true (ys.flatMap basec)):=wb;have lw:=lt_of_get wr;have hne:b≠db:=by have:=wj b (.inr (.inr (.inl rfl))); omega
   simp only[dcs,rv_some] at ad0 ⊢;have ad':∀l,(A2++l)[db]?=_:=fun l=>get_old ad0;have ad2:∀y l,(A2.set b y++l)[db]?=A2[db]?:=fun y l=>by rw[get_lt (by simpa using lb),set_ne hne]
   have k1:∀l,(A2++l)[b]?=_:=fun l=>get_old wr;have k2:∀l y,(A2++l).set b y=A2.set b y++l:=fun l y=>set_old lw;have k5:∀y l z,(A2.set b y++l).set db z=(A2.set b y).set db z++l:=fun y l z=>set_old (by simpa using lb);have k9:(n*1=(ys.flatMap basec).length)=True:=eq_true lB.symm;have k90:(n=(ys.flatMap basec).length)=True:=eq_true (by omega);simp only[push_cast,g1,g3,g4,ad0,ad',ad2,srcOf,x6,hn1,k1,k2,k5,k9,k90,Nat.mul_one,simprocAttr];refine⟨A2.length+1,?_,?_,by omega,fun j j1 j2 j3=>by rw[get_lt (by simpa using j1),set_ne (Ne.symm j2),set_ne (fun e=>j3 (by rw[e]))]⟩
   ·rw[get_lt (by simpa using lb),set_get (by simpa using lb)]
   ·rw[get_appC (n:=A2.length) (k:=1) (by simp)]; rfl
 clear g1 g3 g4 g;rintro g A3 ⟨nb,ad1,wb',ln2,fr2,g1,g3,g4⟩;have o4:A2.length<=A3.length:=by have:=lt_of_get wb'; omega
 clear ad; have ad:=ad1; clear ad1;have wp:RowAt A3 bp (ys.flatMap spentc):=RowAt.of wp fun j hj j1=>fr2 j j1 (by have:=wj j (.inr (.inr (.inr hj))); omega) (fun e=>(wd3 j e) hj);refine Post.mono (P:=fun x g X=>x=.norm/\∃np,X[db]?=some (.cells true (dcs c lv (rv (some nl) (n+1) 3) (rv (some ns) (n+1) 9) (rv (some nb) (n+1) 1) (rv (some np) (n+1) 1)))/\X[np]?=some (.cells true (ys.flatMap spentc++spentc y))/\A3.length<=np/\(∀j,j<A3.length->j≠db->bp≠some j->X[j]?=A3[j]?)/\g.rd 1=.pointer (some ⟨h.length,0,none⟩)/\g.rd 3=.pointer (some ⟨db,0,none⟩)/\g.rd 4=.int .i64 i) ?_ ?_
 ·have lb:=lt_of_get ad;have r6:∀l z,(A3++l).set db z=A3.set db z++l:=fun l z=>set_old lb;have hn0:(n+1)*8<=140737488355328:=by omega
  have hn1:((n+1)*8<=140737488355328)=True:=eq_true hn0;rw[yp];have ad0:=ad;cases bp with
  | none =>
   have e:ys.flatMap spentc=[]:=wp;have n0:n=0:=by rw[e] at lP; simp at lP; omega
   simp only[dcs,rv_none,rv_some] at ad0 ⊢;have ad':∀l,(A3++l)[db]?=_:=fun l=>get_old ad0;simp only[push_cast,g1,g3,g4,ad0,ad',srcOf,x6,r6,hn1,n0,simprocAttr];refine⟨A3.length+1,?_,?_,by omega,fun j j1 j2 _=>by rw[get_lt (by simpa using j1),set_ne (Ne.symm j2)]⟩
   ·rw[get_lt (by simpa using lb),set_get lb]
   ·rw[get_appC (n:=A3.length) (k:=1) (by simp),e]; rfl
  | some b =>
   have wr:A3[b]?=some (.cells true (ys.flatMap spentc)):=wp;have lw:=lt_of_get wr;have hne:b≠db:=by have:=wj b (.inr (.inr (.inr rfl))); omega
   simp only[dcs,rv_some] at ad0 ⊢;have ad':∀l,(A3++l)[db]?=_:=fun l=>get_old ad0;have ad2:∀y l,(A3.set b y++l)[db]?=A3[db]?:=fun y l=>by rw[get_lt (by simpa using lb),set_ne hne]
   have k1:∀l,(A3++l)[b]?=_:=fun l=>get_old wr;have k2:∀l y,(A3++l).set b y=A3.set b y++l:=fun l y=>set_old lw;have k5:∀y l z,(A3.set b y++l).set db z=(A3.set b y).set db z++l:=fun y l z=>set_old (by simpa using lb);have k9:(n*1=(ys.flatMap spentc).length)=True:=eq_true lP.symm;have k90:(n=(ys.flatMap spentc).length)=True:=eq_true (by omega);simp only[push_cast,g1,g3,g4,ad0,ad',ad2,srcOf,x6,hn1,k1,k2,k5,k9,k90,Nat.mul_one,simprocAttr];refine⟨A3.length+1,?_,?_,by omega,fun j j1 j2 j3=>by rw[get_lt (by simpa using j1),set_ne (Ne.symm j2),set_ne (fun e=>j3 (by rw[e]))]⟩
   ·rw[get_lt (by simpa using lb),set_get (by simpa using lb)]
   ·rw[get_appC (n:=A3.length) (k:=1) (by simp)]; rfl
 clear g1 g3 g4 g;rintro x g A4 ⟨rfl,np,ad1,wp',ln3,fr3,g1,g3,g4⟩;have o5:A3.length<=A4.length:=by have:=lt_of_get wp'; omega
 clear ad; have ad:=ad1; clear ad1;have k0:=lt_of_get wl';have k1:=lt_of_get ws';have k2:=lt_of_get wb';have k3:=lt_of_get wp';have big:∀j,X'.length<=j->bl≠some j/\bs≠some j/\bb≠some j/\bp≠some j:=fun j hj=>⟨fun e=>by have:=wj j (.inl e); omega,fun e=>by have:=wj j (.inr (.inl e)); omega,fun e=>by have:=wj j (.inr (.inr (.inl e))); omega,fun e=>by have:=wj j (.inr (.inr (.inr e))); omega⟩;have frT:∀j,j<A0.length->j≠db->(bl≠some j/\bs≠some j/\bb≠some j/\bp≠some j)->A4[j]?=A0[j]?:=fun j j1 j2 ⟨j3,j4,j5,j6⟩=>(fr3 j (by omega) j2 j6).trans ((fr2 j (by omega) j2 j5).trans ((fr1 j (by omega) j2 j4).trans (fr0 j j1 j2 j3)));have wl4:A4[nl]?=some (.cells true (ys.flatMap rawc++rawc y)):=(fr3 nl (by omega) (by omega) (big nl (by omega)).2.2.2).trans ((fr2 nl (by omega) (by omega) (big nl (by omega)).2.2.1).trans ((fr1 nl (by omega) (by omega) (big nl (by omega)).2.1).trans wl'));have ws4:A4[ns]?=some (.cells true (ys.flatMap specc++specc y)):=(fr3 ns (by omega) (by omega) (big ns (by omega)).2.2.2).trans ((fr2 ns (by omega) (by omega) (big ns (by omega)).2.2.1).trans ws');have wb4:A4[nb]?=some (.cells true (ys.flatMap basec++basec y)):=(fr3 nb (by omega) (by omega) (big nb (by omega)).2.2.2).trans wb';have low:∀j,j<=db->bl≠some j/\bs≠some j/\bb≠some j/\bp≠some j:=fun j hj=>⟨fun e=>by have:=wj j (.inl e); omega,fun e=>by have:=wj j (.inr (.inl e)); omega,fun e=>by have:=wj j (.inr (.inr (.inl e))); omega,fun e=>by have:=wj j (.inr (.inr (.inr e))); omega⟩;simp only[push_cast,g1,g3,g4,simprocAttr];refine⟨ys++[y],some ⟨nl,ns,nb,np⟩,⟨?_,rfl,⟨?_,?_,?_,?_,?_,?_,?_,?_⟩,?_⟩,?_,tl2,fun j hj=>(frT j (by omega) (by omega) (low j (by omega))).trans (xoA j hj),(frT _ (by omega) (by omega) (low _ (by omega))).trans xcA⟩
 ·rw[dk0_cs];simp only[Option.map_some,List.length_append,List.length_cons,List.length_nil,hn'];exact ad
 ·show db<nl; omega
 ·show nl<ns; omega
 ·show ns<nb; omega
 ·show nb<np; omega
 ·show A4[nl]?=_; rw[wl4]; simp[dk0]
 ·show A4[ns]?=_; rw[ws4]; simp[dk0]
 ·show A4[nb]?=_; rw[wb4]; simp[dk0]
 ·show A4[np]?=_; rw[wp']; simp[dk0]
 ·simp[dk0]; omega
 ·intro R hR x hx
  injection hR with hR
  subst hR;show Spx E A4 x db nl;rcases List.mem_append.1 hx with hx | hx
  ·obtain⟨R,hR⟩:∃R,r=some R:=by
    cases hr:r with
    | some R=>exact⟨R,rfl⟩
    | none =>
     have T:=D.row;rw[show(dk0 c lv r ys).r=none from hr] at T;have T:ys=[]:=T;rw[T] at hx;cases hx
   have hl:=lX.2 R hR;have T:=D.row;rw[show(dk0 c lv r ys).r=some R from hR] at T;obtain⟨t1,t2,t3,t4,-⟩:=T;refine(sp R hR x hx).of (fun j j1 j2=>(frT j (by omega) (by omega) ⟨fun e=>?_,fun e=>?_,fun e=>?_,fun e=>?_⟩).trans (o0 j (by omega))) (by omega)
   ·have:=(wj j (.inl e)).2.2 R hR; omega
   ·have:=(wj j (.inr (.inl e))).2.2 R hR; omega
   ·have:=(wj j (.inr (.inr (.inl e)))).2.2 R hR; omega
   ·have:=(wj j (.inr (.inr (.inr e)))).2.2 R hR; omega
  ·rw[List.mem_singleton.1 hx];exact spx A4 (fun j j1 j2=>(frT j (by omega) (by omega) (big j (by omega))).trans (o1 j j2)) nl (by omega)
end
section
open Tb
theorem chunk_ext {α:Type}{f:α->List Value}{k:Nat}(hf:∀x,(f x).length=k):∀(l:List α) (cs:List Value),cs.length=l.length*k->(∀(j:Nat) (x:α),l[j]?=some x->(cs.drop (j*k)).take k=f x)->cs=l.flatMap f
 | [],cs,h,_=>by
  rw[List.length_nil,Nat.zero_mul] at h;exact List.eq_nil_of_length_eq_zero h
 | x::l,cs,h,hc=>by
  have h0:=hc 0 x rfl;rw[Nat.zero_mul,List.drop_zero] at h0;have hl:(cs.drop k).length=l.length*k:=by rw[List.length_drop,h,List.length_cons,Nat.add_mul]; omega
  have ih:=chunk_ext hf l (cs.drop k) hl fun j y hy=>by
   have:=hc (j+1) y hy;rw[List.drop_drop,<- this,Nat.add_mul,Nat.one_mul,Nat.add_comm]
  rw[List.flatMap_cons,<- ih,<- h0,List.take_append_drop]
theorem own_row {α:Type}{f:α->List Value}{k:Nat}(hf:∀x,(f x).length=k){h:Hp}{lo:Nat}{a:Option Addr}{e:Nat}{l:List α}{ev:Nat->List Value}(hev:∀(j:Nat) (x:α),l[j]?=some x->ev j=f x)(W:OwnW k h lo a l.length e ev):∃b,Value.slice a l.length e=rv b l.length k/\(match b with | none=>l=[] | some b=>lo<=b/\h[b]?=some (.cells true (l.flatMap f))):=by
 rcases W with⟨rfl,h1,rfl⟩ | ⟨b,cs,rfl,rfl,h1,h2,h3,h4⟩
 ·have:=List.eq_nil_of_length_eq_zero h1;subst this;exact⟨none,rfl,rfl⟩
 ·refine⟨some b,rfl,h1,?_⟩;rw[h2,chunk_ext hf l cs h3 fun j x hx=>?_];rw[h4 j (lt_of_getL hx)];exact hev j x hx
theorem row_slw {α:Type}[Inhabited α]{f:α->List Value}{k:Nat}(hf:∀x,(f x).length=k){h:Hp}{b:Option Nat}{l:List α}(H:match b with | none=>l=[] | some b=>h[b]?=some (.cells true (l.flatMap f))):∃a e,rv b l.length k=.slice a l.length e/\SlW k h a l.length e fun j=>f (l.getD j default):=by
 cases b with
 | none =>
  have e:l=[]:=H;subst e;exact⟨none,0,rfl,.inl ⟨rfl,rfl,rfl⟩⟩
 | some b =>
  refine⟨some ⟨b,0,none⟩,k,rfl,.inr ⟨b,0,true,_,rfl,rfl,H,by rw[chunk_len hf]; omega,fun j hj=>?_⟩⟩;rw[Nat.zero_add,chunk_get hf l j (l.getD j default) (by rw[List.getD_eq_getElem?_getD,List.getElem?_eq_getElem hj]; rfl)]
variable {E:Env}(C:Conds E){lim:Nat}{h H0:Hp}{F:Nat->Prop}
include C
theorem c70_nil:evI E lim (.func 70) [.slice none 0 0] h=some (.slice none 0 0,h):=by
 have hE:=C.hE;rw[hE.fn T70]; simp only[push_cast,ac70,simprocAttr]
theorem c34 {t:TM}{tb:Nat}(T:t.In tb h)(hlim:lim<=h.length):PostV (evI E lim (.func 34) [.pointer (some ⟨tb,0,none⟩)] h) fun v h'=>∃(tb':Nat) (rb' wb':Option Nat),v=.pointer (some ⟨tb',0,none⟩)/\({ t with rb:=rb',wb:=wb' }:TM).In tb' h'/\(∀j,j<h.length->h'[j]?=h[j]?)/\h.length<=tb'/\(∀b,rb'=some b->h.length<=b)/\(∀b,wb'=some b->h.length<=b)/\(t.wb=none->t.ws=[]->wb'=none):=by
 have hE:=C.hE;have T2:=T.row;have T3:=T.wai
 have R:match t.rb with | none=>t.xs=[] | some b=>h[b]?=some (.cells true (t.xs.flatMap TK.cs)):=by
  cases hrb:t.rb with
  | none=>rw[hrb] at T2; exact T2
  | some b=>rw[hrb] at T2; exact T2.2
 have Wr:match t.wb with | none=>t.ws=[] | some b=>h[b]?=some (.cells true (t.ws.flatMap fd)):=by
  cases hwb:t.wb with
  | none=>rw[hwb] at T3; exact T3
  | some b=>rw[hwb] at T3; exact T3.2.2
 obtain⟨ra,re,hra,SR⟩:=row_slw TK.cs_len R;obtain⟨wa,we,hwa,SW⟩:=row_slw (f:=fd) (k:=2) (fun _=>rfl) Wr;obtain⟨A,hA⟩:∃A,A=h++[Blk.cells true t.cs]:=⟨_,rfl⟩;have SR1:SlW 14 A ra t.xs.length re fun j=>(t.xs.getD j default).cs:=by rw[hA]; exact SR.grow
 obtain⟨v,X1,e69,a1,e1,l1,rfl,rfl,O1⟩:=(c69 hE (lim:=lim) SR1 (by have:=T.n; omega) (fun j _=>rfl)).out;have SW1:SlW 2 (A++l1) wa t.ws.length we fun j=>fd (t.ws.getD j default):=by rw[hA]; exact SW.grow.grow
 obtain⟨a2,e2,l2,e70,O2,w0⟩:∃a2 e2 l2,evI E lim (.func 70) [.slice wa t.ws.length we] (A++l1)=some (.slice a2 t.ws.length e2,A++l1++l2)/\OwnW 2 (A++l1++l2) (A++l1).length a2 t.ws.length e2 (fun j=>fd (t.ws.getD j default))/\(t.wb=none->a2=none):=by
  cases hwb:t.wb with
  | none =>
   rw[hwb] at hwa Wr;have e0:t.ws=[]:=Wr;rw[e0] at hwa ⊢;simp only[rv_none,List.length_nil] at hwa ⊢
   injection hwa with q1 q2 q3
   subst q1 q3;exact⟨none,0,[],by rw[List.append_nil]; exact c70_nil C,.inl ⟨rfl,rfl,rfl⟩,fun _=>rfl⟩
  | some b =>
   obtain⟨v,X2,e70,a2,e2,l2,rfl,rfl,O2⟩:=(c70 hE (lim:=lim) SW1 (by have:=T.m; omega) (fun j _=>rfl)).out;exact⟨a2,e2,l2,e70,O2,fun h=>by cases h⟩
 have hb:=T.blk;simp only[TM.cs,hra,hwa] at hb;have hA':=hA;simp only[TM.cs,hra,hwa] at hA';have lA:A.length=h.length+1:=by rw[hA]; simp
 have x6:∀q:Prop,(lim<=h.length\/q)=True:=fun q=>by simp[hlim]
 have lb:=lt_of_get hb;have hbA:∀l,(A++l)[tb]?=_:=fun l=>get_old (by rw[hA]; exact get_old hb);have hbA0:=hbA [];rw[List.append_nil] at hbA0;have lZ:∀y:Blk,(A.set h.length y).length=A.length:=fun y=>by simp
 have z1:A[h.length]?=some (.cells true t.cs):=by rw[hA]; exact get_app0
 have z2:∀l,(A++l)[h.length]?=some (.cells true t.cs):=fun l=>get_old z1;have z3:∀l y,(A++l).set h.length y=A.set h.length y++l:=fun l y=>set_old (by omega);have z4:∀l y,(A.set h.length y++l)[h.length]?=some y:=fun l y=>get_old (set_get (by omega));have z5:∀l y z,(A.set h.length y++l).set h.length z=A.set h.length z++l:=fun l y z=>by rw[set_old (by first | omega | (simp; omega)),List.set_set]
 simp only[TM.cs,hra,hwa] at z1 z2;rw[List.append_assoc] at e70 O2;have eA:∀y,(h++[y]).set h.length (.cells true t.cs)=A:=fun y=>by rw[hA,List.set_append_right _ _ (Nat.le_refl _)]; simp
 simp only[TM.cs,hra,hwa] at eA;obtain⟨p,hp⟩:=zv_ptr t.k.z;simp only[hp] at hb hbA hbA0 z1 z2 eA hA';rw[hE.fn T34]; simp only[push_cast,ac34,hb,get_old hb,srcOf,eA,hbA,hbA0,z1,z2,z3,z4,z5,x6,e69,e70,sureL,simprocAttr]
 obtain⟨rb',r1,r2⟩:=own_row (f:=TK.cs) (l:=t.xs) TK.cs_len (fun j x hx=>by
  show(t.xs.getD j default).cs=_;rw[List.getD_eq_getElem?_getD,hx]; rfl) O1
 obtain⟨wb',u1,u2⟩:=own_row (f:=fd) (k:=2) (l:=t.ws) (fun _=>rfl) (fun j x hx=>by
  show fd (t.ws.getD j default)=_;rw[List.getD_eq_getElem?_getD,hx]; rfl) O2
 have hw0:t.wb=none->wb'=none:=fun hw=>by
  have e:=w0 hw;cases wb' with
  | none=>rfl
  | some b=>rw[e] at u1; cases u1
 have fr:∀(y:Blk) j,j<h.length->(A.set h.length y++(l1++l2))[j]?=h[j]?:=fun y j hj=>by rw[get_lt (by first | omega | (simp; omega)),set_ne (by omega),hA,get_lt hj]
 have nr:∀b,rb'=some b->h.length+1<=b/\(A++l1)[b]?=some (.cells true (tks t.xs)):=fun b e=>by
  rw[e] at r2;have:=r2.1;exact⟨by omega,r2.2⟩
 have nw:∀b,wb'=some b->A.length+l1.length<=b/\(A++(l1++l2))[b]?=some (.cells true (fds t.ws)):=fun b e=>by
  rw[e] at u2;have:=u2.1;rw[List.length_append] at this;exact⟨this,u2.2⟩
 have nx:rb'=none->t.xs=[]:=fun e=>by rw[e] at r2; exact r2
 have ny:wb'=none->t.ws=[]:=fun e=>by rw[e] at u2; exact u2
 have st:∀(y:Blk) b,h.length+1<=b->(A.set h.length y++(l1++l2))[b]?=(A++(l1++l2))[b]?:=fun y b hb=>by
  have e:(A++(l1++l2)).set h.length y=A.set h.length y++(l1++l2):=set_old (by omega);rw[<- e,set_ne (by omega)]
 refine⟨h.length,rb',wb',rfl,⟨?_,?_,?_,T.n,T.m⟩,fun j hj=>fr _ j hj,Nat.le_refl _,fun b e=>by have:=(nr b e).1; omega,fun b e=>by have:=(nw b e).1; omega,fun h1 _=>hw0 h1⟩
 ·rw[z4,r1,u1,<- hp]; rfl
 ·simp only;cases hrb':rb' with
  | none=>exact nx hrb'
  | some b =>
   obtain⟨q1,q2⟩:=nr b hrb';refine⟨by omega,?_⟩;rw[st _ b q1,<- List.append_assoc];exact get_old q2
 ·simp only;cases hwb':wb' with
  | none=>exact ny hwb'
  | some b =>
   obtain⟨q1,q2⟩:=nw b hwb';refine⟨by omega,fun e=>?_,?_⟩
   ·obtain⟨q3,q4⟩:=nr b e;have:=lt_of_get q4;rw[List.length_append] at this;omega
   ·rw[st _ b (by omega)];exact q2
end
section
open Tb
def Zo (Z z:Option ZN):Prop:=z=none\/z=Z
def tm (t:TM)(tb j:Nat):Prop:=j=tb\/t.rb=some j\/t.wb=some j
def dm (r:Option DR)(db j:Nat):Prop:=j=db\/∃R,r=some R/\(j=R.l\/j=R.s\/j=R.b\/j=R.p)
structure KV (E:Env)(H0:Hp)(F:Nat->Prop)(Z:Option ZN)(k:KN)(xs:List TK):Prop where
 ok:k.Ok
 l:0<=k.late/\k.late<=9223372036854775806
 z:Zo Z k.z
 xs:∀x∈xs,x.Ok/\∀z,Zo Z z->AskF E H0 F z x
structure TV (E:Env)(H0:Hp)(F:Nat->Prop)(Z:Option ZN)(t:TM)(tb:Nat)(X:Hp):Prop where
 T:t.In tb X
 W:t.Wt
 K:KV E H0 F Z t.k t.xs
 n:∀j,tm t tb j->¬ F j
structure DV (E:Env)(H0:Hp)(F:Nat->Prop)(Z:Option ZN)(d:DK)(db:Nat)(X:Hp):Prop where
 D:d.In db X
 K:KV E H0 F Z d.k d.ys
 n:¬ F db/\∀R,d.r=some R->¬ F R.b/\¬ F R.p
structure TStep (E:Env)(H0:Hp)(F:Nat->Prop)(Z:Option ZN)(t:TM)(tb:Nat)(t':TM)(X X':Hp):Prop where
 v:TV E H0 F Z t' tb X'
 f:∀j,j<X.length->¬ tm t tb j->X'[j]?=X[j]?
 m:∀j,tm t' tb j->tm t tb j\/X.length<=j
 l:X.length<=X'.length
structure DStep (E:Env)(H0:Hp)(F:Nat->Prop)(Z:Option ZN)(d:DK)(db:Nat)(d':DK)(X X':Hp):Prop where
 v:DV E H0 F Z d' db X'
 f:d.Fr db X X'
 r:d'.r=d.r
 l:X.length<=X'.length
theorem TM.In.tlt {t:TM}{tb:Nat}{X:Hp}(T:t.In tb X){j:Nat}(h:tm t tb j):j<X.length:=by
 rcases h with rfl | h | h
 ·exact lt_of_get T.blk
 ·have:=T.row; rw[h] at this; exact lt_of_get this.2
 ·have:=T.wai; rw[h] at this; exact lt_of_get this.2.2
theorem DK.In.dlt {d:DK}{db:Nat}{X:Hp}(D:d.In db X){j:Nat}(h:dm d.r db j):j<X.length:=by
 rcases h with rfl | ⟨R,hR,h⟩
 ·exact D.lt.1
 ·have:=D.lt.2 R hR;have T:=D.row;rw[hR] at T;omega
theorem TM.In.onm {t:TM}{tb:Nat}{h X:Hp}(T:t.In tb h)(H:∀j,tm t tb j->X[j]?=h[j]?):t.In tb X:=T.on (H _ (.inl rfl)) (fun b hb=>H b (.inr (.inl hb))) fun b hb=>H b (.inr (.inr hb))
theorem DK.In.onm {d:DK}{db:Nat}{h X:Hp}(D:d.In db h)(H:∀j,dm d.r db j->X[j]?=h[j]?):d.In db X:=D.on (H _ (.inl rfl)) fun r hr=>⟨H _ (.inr ⟨r,hr,.inl rfl⟩),H _ (.inr ⟨r,hr,.inr (.inl rfl)⟩),H _ (.inr ⟨r,hr,.inr (.inr (.inl rfl))⟩),H _ (.inr ⟨r,hr,.inr (.inr (.inr rfl))⟩)⟩
structure PW (E:Env)(H0:Hp)(F:Nat->Prop)(Z:Option ZN)(t:TM)(tb:Nat)(d:DK)(db nb:Nat)(B:Blk)(X:Hp):Prop where
 vt:TV E H0 F Z t tb X
 vd:DV E H0 F Z d db X
 c:Ctx H0 F X
 s:∀j,tm t tb j->¬ dm d.r db j
 now:X[nb]?=some B
 nt:¬ tm t tb nb
 nd:¬ dm d.r db nb
theorem PW.keep {E:Env}{H0:Hp}{F:Nat->Prop}{Z:Option ZN}{t:TM}{tb:Nat}{d:DK}{db nb:Nat}{B:Blk}{X X':Hp}(P:PW E H0 F Z t tb d db nb B X)(h:∀j,j<X.length->tm t tb j\/dm d.r db j\/F j\/j=nb->X'[j]?=X[j]?):PW E H0 F Z t tb d db nb B X' :=
 ⟨⟨P.vt.T.onm fun j hj=>h j (P.vt.T.tlt hj) (.inl hj),P.vt.W,P.vt.K,P.vt.n⟩,⟨P.vd.D.onm fun j hj=>h j (P.vd.D.dlt hj) (.inr (.inl hj)),P.vd.K,P.vd.n⟩,P.c.of fun j hj=>h j (P.c.L j hj) (.inr (.inr (.inl hj))),P.s,(h nb (lt_of_get P.now) (.inr (.inr (.inr rfl)))).trans P.now,P.nt,P.nd⟩
theorem PW.tstep {E:Env}{H0:Hp}{F:Nat->Prop}{Z:Option ZN}{t t':TM}{tb:Nat}{d:DK}{db nb:Nat}{B:Blk}{X X':Hp}(P:PW E H0 F Z t tb d db nb B X)(S:TStep E H0 F Z t tb t' X X'):PW E H0 F Z t' tb d db nb B X' :=
 ⟨S.v,⟨P.vd.D.onm fun j hj=>S.f j (P.vd.D.dlt hj) fun h=>P.s j h hj,P.vd.K,P.vd.n⟩,P.c.of fun j hj=>S.f j (P.c.L j hj) fun h=>P.vt.n j h hj,
  fun j hj=>by
   rcases S.m j hj with h | h
   ·exact P.s j h
   ·exact fun h2=>by have:=P.vd.D.dlt h2; omega,
  (S.f nb (lt_of_get P.now) P.nt).trans P.now,fun h=>by
   rcases S.m nb h with h | h
   ·exact P.nt h
   ·have:=lt_of_get P.now; omega,P.nd⟩
theorem fr_dm {d:DK}{db:Nat}{X X':Hp}(f:d.Fr db X X'){j:Nat}(h:j<X.length)(hn:¬ dm d.r db j):X'[j]?=X[j]?:=f j h (fun e=>hn (.inl e)) fun R hR=>⟨fun e=>hn (.inr ⟨R,hR,.inr (.inr (.inl e))⟩),fun e=>hn (.inr ⟨R,hR,.inr (.inr (.inr e))⟩)⟩
theorem PW.dstep {E:Env}{H0:Hp}{F:Nat->Prop}{Z:Option ZN}{t:TM}{tb:Nat}{d d':DK}{db nb:Nat}{B:Blk}{X X':Hp}(P:PW E H0 F Z t tb d db nb B X)(S:DStep E H0 F Z d db d' X X'):PW E H0 F Z t tb d' db nb B X' :=
 ⟨⟨P.vt.T.onm fun j hj=>fr_dm S.f (P.vt.T.tlt hj) (P.s j hj),P.vt.W,P.vt.K,P.vt.n⟩,S.v,P.c.of fun j hj=>S.f j (P.c.L j hj) (fun e=>P.vd.n.1 (e▸hj)) fun R hR=>⟨fun e=>(P.vd.n.2 R hR).1 (e▸hj),fun e=>(P.vd.n.2 R hR).2 (e▸hj)⟩,
  fun j hj=>by rw[S.r]; exact P.s j hj,(fr_dm S.f (lt_of_get P.now) P.nd).trans P.now,P.nt,by rw[S.r]; exact P.nd⟩
theorem KV.map {E:Env}{H0:Hp}{F:Nat->Prop}{Z:Option ZN}{k k':KN}{xs:List TK}(K:KV E H0 F Z k xs){f:TK->TK}(hk:k'.Ok)(hl:k'.late=k.late)(hz:Zo Z k'.z)(hf:∀x∈xs,(f x).Ok/\(f x).kind=x.kind/\(f x).spec=x.spec/\(f x).text=x.text):KV E H0 F Z k' (xs.map f) :=
 ⟨hk,by rw[hl]; exact K.l,hz,fun x hx=>by
  obtain⟨y,hy,rfl⟩:=List.mem_map.1 hx;obtain⟨o,k1,k2,k3⟩:=hf y hy;refine⟨o,fun z hz=>?_⟩;unfold AskF;rw[k1,k2,k3];exact(K.xs y hy).2 z hz⟩
theorem start_ok2 {x:TK}(hx:x.Ok){R s:Int}(hR:i64r R)(hs:i64r s):(startX R s x).Ok/\(startX R s x).kind=x.kind/\(startX R s x).spec=x.spec/\(startX R s x).text=x.text:=by
 refine⟨⟨hx.span,?_,by show i64r (-1); unfold i64r; omega⟩,rfl,rfl,rfl⟩;show i64r (if s<0 then R else min R s);unfold i64r at *;split<;>omega
theorem jump_ok {x:TK}(hx:x.Ok){R:Int}(hR:i64r R):(jumpX R x).Ok/\(jumpX R x).kind=x.kind/\(jumpX R x).spec=x.spec/\(jumpX R x).text=x.text:=by
 refine⟨⟨hx.span,?_,hx.spent⟩,rfl,rfl,rfl⟩;show i64r (min x.base R);have:=hx.base;unfold i64r at *;omega
variable {E:Env}(C:Conds E){lim:Nat}{h H0:Hp}{F:Nat->Prop}
include C
theorem KV.fire {Z:Option ZN}{k:KN}{xs:List TK}(K:KV E H0 F Z k xs)(hF:∀j,F j->j<H0.length){R:Int}(hR:0<=R/\R<=9223372036854775807)(M:Int):KV E H0 F Z k (xs.map (fireX E H0 k R M)) :=
 K.map K.ok rfl K.z fun x hx=>fire_ok C (M:=M) (((K.xs x hx).2 _ K.z).at ⟨fun _ _=>rfl,hF⟩) (K.xs x hx).1 (by have:=K.l; omega) (by have:=K.l; omega)
theorem TV.start {Z:Option ZN}{t:TM}{tb:Nat}{X:Hp}(V:TV E H0 F Z t tb X)(ha:t.act=false)(hlim:lim<=tb){R M S s:Int}(hR:i64r R)(hM:i64r M)(hS:i64r S)(hs:i64r s)(S0:Int){z:Option ZN}(hz:Zo Z z) :
  PostV (evI E lim (.func 20) [.pointer (some ⟨tb,0,none⟩),.agg #[.int .i64 R,.int .i64 M],.agg #[.int .i64 S0,.int .i64 S],.int .i64 s,zv z] X) fun v X'=>v=.int .i64 0/\TStep E H0 F Z t tb (t.start R M S s z) X X':=by
 obtain⟨v,X',e,rfl,T',f,l⟩:=(c20 C (lim:=lim) V.T ha hlim R M S0 S s z).out;refine PostV.of e ⟨rfl,⟨T',⟨⟨none,none,rfl⟩,fun _=>rfl⟩,V.K.map ⟨V.K.ok.late,V.K.ok.acc,hS,hM,V.K.ok.up,V.K.ok.dn⟩ rfl hz fun x hx=>start_ok2 (V.K.xs x hx).1 hR hs,?_⟩,fun j j1 j2=>f j j1 (fun e=>j2 (.inl e)) (fun e=>j2 (.inr (.inl e))),?_,l⟩
 ·rintro j (h | h | h)
  ·exact V.n j (.inl h)
  ·exact V.n j (.inr (.inl h))
  ·cases h
 ·rintro j (h | h | h)
  ·exact .inl (.inl h)
  ·exact .inl (.inr (.inl h))
  ·cases h
theorem TV.on {Z:Option ZN}{t:TM}{tb:Nat}{X:Hp}(V:TV E H0 F Z t tb X)(ha:t.act=true)(R M S0 S s:Int)(z:Option ZN) :
  PostV (evI E lim (.func 20) [.pointer (some ⟨tb,0,none⟩),.agg #[.int .i64 R,.int .i64 M],.agg #[.int .i64 S0,.int .i64 S],.int .i64 s,zv z] X) fun v X'=>v=.int .i64 4/\TStep E H0 F Z t tb t X X' :=
 PostV.of (c20_on C V.T.blk ha R M S0 S s z) ⟨rfl,⟨V.T.of fun j hj=>get_lt hj,V.W,V.K,V.n⟩,fun j hj _=>get_lt hj,fun j hj=>.inl hj,by simp⟩
theorem TV.put {Z:Option ZN}{t t':TM}{tb:Nat}{X:Hp}(V:TV E H0 F Z t tb X)(h1:t'.rb=t.rb)(h2:t'.wb=t.wb)(h3:t'.xs=t.xs)(h4:t'.ws=t.ws)(hk:t'.k.Ok)(hl:t'.k.late=t.k.late)(hz:t'.k.z=t.k.z):TStep E H0 F Z t tb t' X (X.set tb (.cells true t'.cs)):=by
 have lb:=lt_of_get V.T.blk;have m:∀j,tm t' tb j->tm t tb j:=fun j=>by unfold tm; rw[h1,h2]; exact id
 refine⟨⟨?_,⟨by rw[h4]; exact V.W.sh,by rw[h4,h2]; exact V.W.no⟩,⟨hk,by rw[hl]; exact V.K.l,by rw[hz]; exact V.K.z,by rw[h3]; exact V.K.xs⟩,fun j hj=>V.n j (m j hj)⟩,fun j j1 j2=>set_ne (fun e=>j2 (.inl e.symm)),fun j hj=>.inl (m j hj),by simp⟩;refine⟨set_get lb,?_,?_,by rw[h3]; exact V.T.n,by rw[h4]; exact V.T.m⟩
 ·have:=V.T.row;rw[h1,h3];cases hrb:t.rb with
  | none=>rw[hrb] at this; exact this
  | some b=>rw[hrb] at this; exact⟨this.1,(set_ne (Ne.symm this.1)).trans this.2⟩
 ·have:=V.T.wai;rw[h1,h2,h4];cases hwb:t.wb with
  | none=>rw[hwb] at this; exact this
  | some b=>rw[hwb] at this; exact⟨this.1,this.2.1,(set_ne (Ne.symm this.1)).trans this.2.2⟩
theorem TV.stop {Z:Option ZN}{t:TM}{tb:Nat}{X:Hp}(V:TV E H0 F Z t tb X) :
  PostV (evI E lim (.func 31) [.pointer (some ⟨tb,0,none⟩)] X) fun v X'=>v=undef/\TStep E H0 F Z t tb { t with act:=false } X X' :=
 PostV.of (c31 C V.T.blk) ⟨rfl,TV.put C V rfl rfl rfl rfl V.K.ok rfl rfl⟩
def TM.unit (t:TM)(up:Bool)(M:Int):TM:={ t with k:={ t.k with up:=if up=true then M else t.k.up,dn:=if up=true then t.k.dn else M } }
theorem TV.unit {Z:Option ZN}{t:TM}{tb:Nat}{X:Hp}(V:TV E H0 F Z t tb X)(up:Bool)(R:Int){M:Int}(hM:i64r M) :
  PostV (evI E lim (.func 27) [.pointer (some ⟨tb,0,none⟩),.bool up,.agg #[.int .i64 R,.int .i64 M]] X) fun v X'=>v=undef/\TStep E H0 F Z t tb (t.unit up M) X X':=by
 have e:=c27 C (lim:=lim) V.T.blk up R M;cases up with
 | true=>exact PostV.of e ⟨rfl,TV.put C V rfl rfl rfl rfl ⟨V.K.ok.late,V.K.ok.acc,V.K.ok.st,V.K.ok.ac,hM,V.K.ok.dn⟩ rfl rfl⟩
 | false=>exact PostV.of e ⟨rfl,TV.put C V rfl rfl rfl rfl ⟨V.K.ok.late,V.K.ok.acc,V.K.ok.st,V.K.ok.ac,V.K.ok.up,hM⟩ rfl rfl⟩
theorem TV.fire {Z:Option ZN}{t:TM}{tb:Nat}{X:Hp}(V:TV E H0 F Z t tb X)(c:Ctx H0 F X)(hF:∀j,F j->j<H0.length)(ha:t.act=true){R:Int}(hR:0<=R/\R<=9223372036854775807)(M:Int) :
  PostV (evI E lim (.func 22) [.pointer (some ⟨tb,0,none⟩),.agg #[.int .i64 R,.int .i64 M]] X) fun v X'=>v=fireR (firedL E H0 t R M++t.ws).head?/\TStep E H0 F Z t tb (t.fire E H0 R M) X X':=by
 obtain⟨v,X',e,rfl,l1,T',f⟩:=(c22 C (lim:=lim) V.T V.K.ok (fun x hx=>⟨(V.K.xs x hx).1,(V.K.xs x hx).2 _ V.K.z⟩) c (V.n tb (.inl rfl)) (fun b hb=>V.n b (.inr (.inl hb))) ha R M).out;refine PostV.of e ⟨rfl,⟨T',⟨⟨none,none,rfl⟩,fun _=>rfl⟩,KV.fire C V.K hF hR M,?_⟩,fun j _ j2=>f j (fun e=>j2 (.inl e)) (fun e=>j2 (.inr (.inl e))),?_,by omega⟩
 ·rintro j (h | h | h)
  ·exact V.n j (.inl h)
  ·exact V.n j (.inr (.inl h))
  ·cases h
 ·rintro j (h | h | h)
  ·exact .inl (.inl h)
  ·exact .inl (.inr (.inl h))
  ·cases h
theorem TV.clock {Z:Option ZN}{t:TM}{tb:Nat}{X:Hp}(V:TV E H0 F Z t tb X)(hX:∀j,F j->j<X.length)(ha:t.act=true)(hlim:lim<=tb){R:Int}(hR:i64r R)(M:Int)(j zd:Bool) :
  PostV (evI E lim (.func 26) [.pointer (some ⟨tb,0,none⟩),.agg #[.int .i64 R,.int .i64 M],zv Z,.bool j,.bool zd] X) fun v X'=>v=undef/\∃n1 n2,TStep E H0 F Z t tb ((t.clk R j n1).zon R Z zd n2) X X':=by
 obtain⟨v,X',e,rfl,l1,f,n1,n2,T',W',b'⟩:=(c26 C (lim:=lim) V.T V.W ha hlim R M Z j zd).out;have rb:((t.clk R j n1).zon R Z zd n2).rb=t.rb:=by unfold TM.zon TM.clk; split<;>split<;>rfl
 have wb:((t.clk R j n1).zon R Z zd n2).wb=n2:=by unfold TM.zon; split<;>rfl
 have m:∀i,tm ((t.clk R j n1).zon R Z zd n2) tb i->tm t tb i\/X.length<=i:=fun i hi=>by
  rcases hi with h | h | h
  ·exact .inl (.inl h)
  ·exact .inl (.inr (.inl (by rw[<- rb,h])))
  ·rw[wb] at h;rcases b' with b' | ⟨b,b',l⟩
   ·exact .inl (.inr (.inr (by rw[<- b',h])))
   ·rw[h] at b'
    injection b' with b'
    exact .inr (by omega)
 refine PostV.of e ⟨rfl,n1,n2,⟨T',W',?_,fun i hi hF=>?_⟩,fun i i1 i2=>f i i1 (fun e=>i2 (.inl e)) (fun e=>i2 (.inr (.inl e))) (fun e=>i2 (.inr (.inr e))),m,l1⟩
 ·have K1:KV E H0 F Z (t.clk R j n1).k (t.clk R j n1).xs:=by
   unfold TM.clk;split
   ·exact V.K.map V.K.ok rfl V.K.z fun x hx=>jump_ok (V.K.xs x hx).1 hR
   ·exact V.K
  generalize t.clk R j n1=t1 at K1;unfold TM.zon;split
  ·exact⟨⟨K1.ok.late,K1.ok.acc,K1.ok.st,K1.ok.ac,K1.ok.up,K1.ok.dn⟩,K1.l,.inr rfl,K1.xs⟩
  ·exact K1
 ·rcases m i hi with h | h
  ·exact V.n i h hF
  ·have:=hX i hF; omega
theorem DV.start {Z:Option ZN}{d:DK}{db:Nat}{X:Hp}(V:DV E H0 F Z d db X)(ha:d.act=false)(hlim:lim<=db){R M S s:Int}(hR:i64r R)(hM:i64r M)(hS:i64r S)(hs:i64r s)(S0:Int){z:Option ZN}(hz:Zo Z z) :
  PostV (evI E lim (.func 30) [.pointer (some ⟨db,0,none⟩),.agg #[.int .i64 R,.int .i64 M],.agg #[.int .i64 S0,.int .i64 S],.int .i64 s,zv z] X) fun v X'=>v=.int .i64 0/\DStep E H0 F Z d db (d.start R M S s z) X X':=by
 obtain⟨v,X',e,rfl,D',f,l⟩:=(c30 C (lim:=lim) V.D ha hlim R M S0 S s z).out;exact PostV.of e ⟨rfl,⟨D',V.K.map ⟨V.K.ok.late,V.K.ok.acc,hS,hM,V.K.ok.up,V.K.ok.dn⟩ rfl hz fun x hx=>start_ok2 (V.K.xs x hx).1 hR hs,V.n⟩,f,rfl,l⟩
theorem DV.on {Z:Option ZN}{d:DK}{db:Nat}{X:Hp}(V:DV E H0 F Z d db X)(ha:d.act=true)(R M S0 S s:Int)(z:Option ZN) :
  PostV (evI E lim (.func 30) [.pointer (some ⟨db,0,none⟩),.agg #[.int .i64 R,.int .i64 M],.agg #[.int .i64 S0,.int .i64 S],.int .i64 s,zv z] X) fun v X'=>v=.int .i64 4/\DStep E H0 F Z d db d X X' :=
 PostV.of (c30_on C V.D ha R M S0 S s z) ⟨rfl,⟨V.D.of fun j hj=>get_lt hj,V.K,V.n⟩,fun j hj _ _=>get_lt hj,rfl,by simp⟩
theorem DV.put {Z:Option ZN}{d d':DK}{db:Nat}{X:Hp}(V:DV E H0 F Z d db X)(h1:d'.r=d.r)(h2:d'.ys=d.ys)(h3:d'.k.acc=d'.c.acc)(hk:d'.k.Ok)(hl:d'.k.late=d.k.late)(hz:d'.k.z=d.k.z):DStep E H0 F Z d db d' X (X.set db (.cells true d'.cs)) :=
 ⟨⟨V.D.put h1 h2 h3,⟨hk,by rw[hl]; exact V.K.l,by rw[hz]; exact V.K.z,by rw[h2]; exact V.K.xs⟩,by rw[h1]; exact V.n⟩,fun j _ j2 _=>set_ne (Ne.symm j2),h1,by simp⟩
theorem DV.fire {Z:Option ZN}{d:DK}{db:Nat}{X:Hp}(V:DV E H0 F Z d db X)(c:Ctx H0 F X)(hF:∀j,F j->j<H0.length)(ha:d.act=true){R:Int}(hR:0<=R/\R<=9223372036854775807)(M:Int) :
  PostV (evI E lim (.func 33) [.pointer (some ⟨db,0,none⟩),.agg #[.int .i64 R,.int .i64 M]] X) fun v X'=>v=fireR (d.out E H0 R M).head?/\DStep E H0 F Z d db (d.fire E H0 R M) X X':=by
 obtain⟨v,X',e,rfl,l1,D',f⟩:=(c33 C (lim:=lim) V.D V.K.ok (fun x hx=>⟨(V.K.xs x hx).1,(V.K.xs x hx).2 _ V.K.z⟩) c V.n.2 ha R M).out;exact PostV.of e ⟨rfl,⟨D',KV.fire C V.K hF hR M,V.n⟩,f,rfl,by omega⟩
theorem DV.clock {Z:Option ZN}{d:DK}{db:Nat}{X:Hp}(V:DV E H0 F Z d db X)(ha:d.act=true)(hlim:lim<=db){R:Int}(hR:i64r R)(M:Int)(j zd:Bool) :
  PostV (evI E lim (.func 32) [.pointer (some ⟨db,0,none⟩),.agg #[.int .i64 R,.int .i64 M],zv Z,.bool j,.bool zd] X) fun v X'=>v=undef/\DStep E H0 F Z d db ((d.clkS R j).zonS R Z zd) X X':=by
 obtain⟨v,X',e,rfl,D',f,l1⟩:=(c32 C (lim:=lim) V.D ha hlim R M Z j zd).out;have hr:((d.clkS R j).zonS R Z zd).r=d.r:=by unfold DK.zonS DK.clkS; split<;>split<;>rfl
 refine PostV.of e ⟨rfl,⟨D',?_,by rw[hr]; exact V.n⟩,f,hr,l1⟩
 have K1:KV E H0 F Z (d.clkS R j).k (d.clkS R j).ys:=by
  unfold DK.clkS;split
  ·exact V.K.map V.K.ok rfl V.K.z fun x hx=>jump_ok (V.K.xs x hx).1 hR
  ·exact V.K
 generalize d.clkS R j=d1 at K1;unfold DK.zonS;split
 ·exact⟨⟨K1.ok.late,K1.ok.acc,K1.ok.st,K1.ok.ac,K1.ok.up,K1.ok.dn⟩,K1.l,.inr rfl,K1.xs⟩
 ·exact K1
end
section
open Tb
def TK.bare (x:TK):TG×Int×Int:=(x.raw,x.base,x.spent)
def oz1 (n:Int):Option Int:=if 0<=n then some n else none
structure Rel (t:TM)(d:DK):Prop where
 k:d.k=t.k
 act:d.act=t.act
 oc:d.c.oc=t.oc
 oz:d.c.oz=t.oz
 raw:t.xs.map TK.raw=d.ys.map TK.raw
 same:t.act=true->t.xs.map TK.bare=d.ys.map TK.bare
 ws:t.act=true->t.ws=wl (oz1 d.clk) (oz1 d.zon)
theorem map_rel {β γ:Type}{P:TK->β}{f g:TK->γ}:∀ {xs ys:List TK},xs.map P=ys.map P->(∀x∈xs,∀y∈ys,P x=P y->f x=g y)->xs.map f=ys.map g
 | [],[],_,_=>rfl
 | [],y::ys,h,_=>by simp at h
 | x::xs,[],h,_=>by simp at h
 | x::xs,y::ys,h,hf=>by
  simp only[List.map_cons,List.cons.injEq] at h ⊢;exact⟨hf x (List.mem_cons_self ..) y (List.mem_cons_self ..) h.1,map_rel h.2 fun a ha b hb=>hf a (List.mem_cons_of_mem _ ha) b (List.mem_cons_of_mem _ hb)⟩
theorem fm_rel {β γ:Type}{P:TK->β}{f g:TK->Option γ}:∀ {xs ys:List TK},xs.map P=ys.map P->(∀x∈xs,∀y∈ys,P x=P y->f x=g y)->xs.filterMap f=ys.filterMap g
 | [],[],_,_=>rfl
 | [],y::ys,h,_=>by simp at h
 | x::xs,[],h,_=>by simp at h
 | x::xs,y::ys,h,hf=>by
  simp only[List.map_cons,List.cons.injEq] at h;rw[List.filterMap_cons,List.filterMap_cons,hf x (List.mem_cons_self ..) y (List.mem_cons_self ..) h.1,fm_rel h.2 fun a ha b hb=>hf a (List.mem_cons_of_mem _ ha) b (List.mem_cons_of_mem _ hb)]
theorem bare_raw {xs ys:List TK}(h:xs.map TK.bare=ys.map TK.bare):xs.map TK.raw=ys.map TK.raw:=map_rel h fun x _ y _ e=>congrArg Prod.fst e
theorem Rel.start {t:TM}{d:DK}(H:Rel t d)(R M S s:Int)(z:Option ZN):Rel (t.start R M S s z) (d.start R M S s z):=by
 have hb:(t.xs.map (startX R s)).map TK.bare=(d.ys.map (startX R s)).map TK.bare:=by
  rw[List.map_map,List.map_map];refine map_rel H.raw fun x _ y _ e=>?_;show(x.raw,_,_)=(y.raw,_,_);rw[e]; rfl
 exact⟨by show({ d.k with st:=S,ac:=M,z:=z }:KN)={ t.k with st:=S,ac:=M,z:=z }; rw[H.k],rfl,H.oc,H.oz,bare_raw hb,fun _=>hb,fun _=>rfl⟩
theorem Rel.stop {t:TM}{d:DK}(H:Rel t d):Rel { t with act:=false } { d with act:=false }:=⟨H.k,rfl,H.oc,H.oz,H.raw,(fun h=>by cases h),fun h=>by cases h⟩
def DK.unit (d:DK)(up:Bool)(M:Int):DK:={ d with k:={ d.k with up:=if up=true then M else d.k.up,dn:=if up=true then d.k.dn else M } }
theorem Rel.unit {t:TM}{d:DK}(H:Rel t d)(up:Bool)(M:Int):Rel (t.unit up M) (d.unit up M):=⟨by show({ d.k with up:=if up=true then M else d.k.up,dn:=if up=true then d.k.dn else M }:KN)={ t.k with up:=if up=true then M else t.k.up,dn:=if up=true then t.k.dn else M }; rw[H.k],H.act,H.oc,H.oz,H.raw,H.same,H.ws⟩
theorem Rel.clk {t:TM}{d:DK}(H:Rel t d)(ha:t.act=true){R:Int}(hR:0<=R)(j:Bool)(n:Option Nat):Rel (t.clk R j n) (d.clkS R j)/\(t.clk R j n).act=true:=by
 cases j with
 | false=>exact⟨⟨H.k,H.act,H.oc,H.oz,H.raw,H.same,H.ws⟩,ha⟩
 | true =>
  have hb:(t.xs.map (jumpX R)).map TK.bare=(d.ys.map (jumpX R)).map TK.bare:=by
   rw[List.map_map,List.map_map];refine map_rel (H.same ha) fun x _ y _ e=>?_;obtain⟨e1,e2⟩:=Prod.mk.inj e;obtain⟨e2,e3⟩:=Prod.mk.inj e2;show(x.raw,min x.base R,x.spent)=(y.raw,min y.base R,y.spent);rw[e1,e2,e3]
  refine⟨⟨H.k,H.act,H.oc,H.oz,bare_raw hb,fun _=>hb,fun _=>?_⟩,ha⟩;show(if t.oc=true then wnew 7 R t.ws else t.ws)=wl (oz1 (if d.c.oc=true then R else d.clk)) (oz1 d.zon);rw[H.oc,H.ws ha];split
  ·rw[wnew7]; simp[oz1,hR]
  ·rfl
theorem Rel.zon {t:TM}{d:DK}(H:Rel t d)(ha:t.act=true){R:Int}(hR:0<=R)(Z:Option ZN)(zd:Bool)(n:Option Nat):Rel (t.zon R Z zd n) (d.zonS R Z zd):=by
 cases zd with
 | false=>exact⟨H.k,H.act,H.oc,H.oz,H.raw,H.same,H.ws⟩
 | true =>
  refine⟨by show({ d.k with z:=Z }:KN)={ t.k with z:=Z }; rw[H.k],H.act,H.oc,H.oz,H.raw,H.same,fun _=>?_⟩;show(if t.oz=true then wnew 8 R t.ws else t.ws)=wl (oz1 d.clk) (oz1 (if d.c.oz=true then R else d.zon));rw[H.oz,H.ws ha];split
  ·rw[wnew8]; simp[oz1,hR]
  ·rfl
theorem wl_opt (a b:Int):wl (oz1 a) (oz1 b)=opt1 a (7,a)++opt1 b (8,b):=by unfold oz1 opt1; split<;>split<;>rfl
theorem wl_opt2 (a b:Int):(wl (oz1 a) (oz1 b)).map (fun p=>(true,p.2,p.2))=opt1 a (true,a,a)++opt1 b (true,b,b):=by unfold oz1 opt1; split<;>split<;>rfl
theorem PW.new {E:Env}{H0:Hp}{F:Nat->Prop}{Z:Option ZN}{t:TM}{tb:Nat}{d:DK}{db nb:Nat}{B:Blk}{X:Hp}(P:PW E H0 F Z t tb d db nb B X)(y:Blk):PW E H0 F Z t tb d db X.length y (X++[y]):=by
 have K:=P.keep (X':=X++[y]) fun j hj _=>get_lt hj;exact⟨K.vt,K.vd,K.c,K.s,get_app0,fun h=>by have:=P.vt.T.tlt h; omega,fun h=>by have:=P.vd.D.dlt h; omega⟩
theorem PW.app {E:Env}{H0:Hp}{F:Nat->Prop}{Z:Option ZN}{t:TM}{tb:Nat}{d:DK}{db nb:Nat}{B:Blk}{X:Hp}(P:PW E H0 F Z t tb d db nb B X)(l:Hp):PW E H0 F Z t tb d db nb B (X++l):=P.keep fun j hj _=>get_lt hj
theorem wrow_sl {X:Hp}{lo:Nat}{fb:Option Nat}{L:List (Bool×Int×Int)}(W:WRow X lo fb L):∃pa ea,rv fb L.length 3=.slice pa L.length ea/\SlK 3 X pa L.length ea fun j=>wd (L.getD j default):=by
 cases fb with
 | none =>
  have e:L=[]:=W;rw[e];exact⟨none,0,rfl,fun h=>by cases h⟩
 | some b=>exact⟨some ⟨b,0,none⟩,3,rfl,wds_sl (m:=[]) (by rw[List.append_nil]; exact W.2)⟩
variable {E:Env}(C:Conds E){lim:Nat}{h H0:Hp}{F:Nat->Prop}
include C
theorem due_bare {Z:Option ZN}{k:KN}{xs ys:List TK}(K:KV E H0 F Z k xs)(K':KV E H0 F Z k ys)(hF:∀j,F j->j<H0.length){x y:TK}(hx:x∈xs)(hy:y∈ys)(e:x.bare=y.bare):dueK E H0 k x=dueK E H0 k y/\x.raw=y.raw/\x.base=y.base/\x.spent=y.spent:=by
 obtain⟨e1,e2⟩:=Prod.mk.inj e;obtain⟨e2,e3⟩:=Prod.mk.inj e2;have c0:Ctx H0 F H0:=⟨fun _ _=>rfl,hF⟩;exact⟨due_same C e1 e2 e3 (K.xs x hx).1.base (((K.xs x hx).2 _ K.z).at c0) (((K'.xs y hy).2 _ K.z).at c0),e1,e2,e3⟩
theorem Rel.wins {Z:Option ZN}{t:TM}{d:DK}(H:Rel t d)(ha:t.act=true)(K:KV E H0 F Z t.k t.xs)(K':KV E H0 F Z d.k d.ys)(hF:∀j,F j->j<H0.length):d.wins E H0=winL E H0 t:=by
 rw[H.k] at K';unfold DK.wins winL;rw[H.k,H.ws ha,wl_opt2];refine congrArg (·++_) (fm_rel (H.same ha) fun x hx y hy e=>?_).symm;have:=(due_bare C K K' hF hx hy e).1;unfold winK;rw[this]
theorem Rel.fire {Z:Option ZN}{t:TM}{d:DK}(H:Rel t d)(ha:t.act=true)(K:KV E H0 F Z t.k t.xs)(K':KV E H0 F Z d.k d.ys)(hF:∀j,F j->j<H0.length)(R M:Int):d.out E H0 R M=firedL E H0 t R M++t.ws/\Rel (t.fire E H0 R M) (d.fire E H0 R M):=by
 rw[H.k] at K'
 have hb:(t.xs.map (fireX E H0 t.k R M)).map TK.bare=(d.ys.map (fireX E H0 t.k R M)).map TK.bare:=by
  rw[List.map_map,List.map_map];refine map_rel (H.same ha) fun x hx y hy e=>?_;obtain⟨q1,q2,q3,q4⟩:=due_bare C K K' hF hx hy e;show TK.bare (fireX E H0 t.k R M x)=TK.bare (fireX E H0 t.k R M y);unfold fireX;rw[<- q1];cases dueK E H0 t.k x with
  | none=>exact e
  | some p =>
   obtain⟨r,n⟩:=p;cases r with
   | true =>
    simp only[if_true];split
    ·show(x.raw,_,x.spent)=(y.raw,_,y.spent);rw[q2,q4]
    ·exact e
   | false =>
    simp only[Bool.false_eq_true,if_false];split
    ·show(x.raw,x.base,_)=(y.raw,y.base,_);rw[q2,q3]
    ·exact e
 refine⟨?_,H.k,H.act,H.oc,H.oz,?_,fun _=>?_,fun _=>rfl⟩
 ·unfold DK.out firedL;rw[H.k,H.ws ha,wl_opt];refine congrArg (·++_) (fm_rel (H.same ha) fun x hx y hy e=>?_).symm;obtain⟨q1,q2,q3,q4⟩:=due_bare C K K' hF hx hy e;have q5:x.kind=y.kind:=congrArg TG.kind q2;unfold elaK elap;rw[q1,q5]
 ·show(t.xs.map (fireX E H0 t.k R M)).map TK.raw=(d.ys.map (fireX E H0 d.k R M)).map TK.raw;rw[H.k];exact bare_raw hb
 ·show(t.xs.map (fireX E H0 t.k R M)).map TK.bare=(d.ys.map (fireX E H0 d.k R M)).map TK.bare;rw[H.k];exact hb
theorem PW.wins {Z:Option ZN}{t:TM}{tb:Nat}{d:DK}{db nb:Nat}{B:Blk}{X:Hp}(P:PW E H0 F Z t tb d db nb B X)(H:Rel t d)(hF:∀j,F j->j<H0.length)(hlim:lim<=X.length) :
  ∃pa ea pb eb n X1 X2,evI E lim (.func 24) [.pointer (some ⟨tb,0,none⟩)] X=some (.slice pa n ea,X1)/\evI E lim (.func 36) [.pointer (some ⟨db,0,none⟩)] X1=some (.slice pb n eb,X2)/\evI E lim (.func 25) [.slice pa n ea,.slice pb n eb] X2=some (.bool true,X2)/\PW E H0 F Z t tb d db nb B X2:=by
 cases ha:t.act with
 | false =>
  have hd:d.act=false:=H.act.trans ha;exact⟨none,0,none,0,0,X,X,c24_off C P.vt.T.blk ha,c36_off C P.vd.D hd,c25 C (A:=[]) (fun h=>absurd h (Nat.lt_irrefl 0)) (fun h=>absurd h (Nat.lt_irrefl 0)) (by omega),P⟩
 | true =>
  have hd:d.act=true:=H.act.trans ha;obtain⟨v,X1,e24,fa,rfl,WA,o1,l1⟩:=(c24 C (lim:=lim) P.vt.T P.vt.K.ok (fun x hx=>⟨(P.vt.K.xs x hx).1,(P.vt.K.xs x hx).2 _ P.vt.K.z⟩) P.c ha hlim).out;have P1:=P.keep (X':=X1) fun j hj _=>o1 j hj;obtain⟨v,X2,e36,fb,rfl,WB,o2,l2⟩:=(c36 C (lim:=lim) P1.vd.D P1.vd.K.ok (fun x hx=>⟨(P1.vd.K.xs x hx).1,(P1.vd.K.xs x hx).2 _ P1.vd.K.z⟩) P1.c hd).out;have P2:=P1.keep (X':=X2) fun j hj _=>o2 j hj;rw[H.wins C ha P.vt.K P.vd.K hF] at e36 WB
  have las:(winL E H0 t).length<=2000:=by
   unfold winL;rw[List.length_append,List.length_map];have:=List.length_filterMap_le (winK E H0 t.k) t.xs;have:=P.vt.T.n;have:=P.vt.T.m;omega
  have WA2:WRow X2 X.length fa (winL E H0 t):=by
   cases fa with
   | none=>exact WA
   | some b=>exact⟨WA.1,(o2 b (lt_of_get WA.2)).trans WA.2⟩
  obtain⟨pa,ea,era,SA⟩:=wrow_sl WA2;obtain⟨pb,eb,erb,SB⟩:=wrow_sl WB;rw[era] at e24;rw[erb] at e36;exact⟨pa,ea,pb,eb,_,X1,X2,e24,e36,c25 C SA SB (by omega),P2⟩
end
section
open Tb
structure LD where
 kind:Int
 real:Int
 mono:Int
 stamp:Int
 b:Bool
 c:Bool
instance:Inhabited LD:=⟨⟨0,0,0,0,false,false⟩⟩
def LD.cs (x:LD):List Value:=[.int .u8 x.kind,.int .i64 x.real,.int .i64 x.mono,.int .i64 x.stamp,.bool x.b,.bool x.c]
structure LD.Ok (x:LD):Prop where
 real:i64r x.real
 mono:i64r x.mono
 stamp:i64r x.stamp
def NP (la:Option Addr)(ln le:Nat)(p:Option Addr)(tb db:Nat)(i:Nat)(g:Fr):Prop:=g.rd 1=.slice la ln le/\g.rd 5=.pointer p/\g.rd 7=.pointer (some ⟨tb,0,none⟩)/\g.rd 8=.pointer (some ⟨db,0,none⟩)/\g.rd 9=.int .i64 i
def PL (E:Env)(H0:Hp)(F:Nat->Prop)(Z:Option ZN)(lim tb db nb:Nat)(B:Blk)(X:Hp):Prop:=∃t d,PW E H0 F Z t tb d db nb B X/\Rel t d/\lim<=tb/\lim<=db
variable {E:Env}(C:Conds E){lim:Nat}{h H0:Hp}{F:Nat->Prop}
include C
theorem fireR_is (o:Option (Int×Int)):∃a b is,fireR o=.tuple #[.agg #[.int .u8 a,.int .i64 b],.bool is]:=by
 cases o with
 | none=>exact⟨0,0,false,rfl⟩
 | some p=>exact⟨p.1,p.2,true,rfl⟩
theorem half_ok {m:Int}(h:i64r m):i64r (m.tdiv 2)/\IntKind.i64.wrap (m.tdiv 2)=m.tdiv 2:=by
 unfold i64r at *
 have h1:-9223372036854775808<=m.tdiv 2/\m.tdiv 2<=9223372036854775807:=by
  rcases Int.le_total 0 m with hm | hm
  ·rw[Int.tdiv_eq_ediv_of_nonneg hm]; omega
  ·have e:m.tdiv 2=-((-m).tdiv 2):=by rw[Int.neg_tdiv,Int.neg_neg]
   rw[e,Int.tdiv_eq_ediv_of_nonneg (by omega)];omega
 exact⟨h1,wrap64 h1.1 h1.2⟩
theorem PW.start {Z:Option ZN}{t:TM}{tb:Nat}{d:DK}{db nb:Nat}{B:Blk}{X:Hp}(P:PW E H0 F Z t tb d db nb B X)(H:Rel t d)(lt:lim<=tb)(ld:lim<=db){R M S s:Int}(hR:i64r R)(hM:i64r M)(hS:i64r S)(hs:i64r s)(S0:Int){z:Option ZN}(hz:Zo Z z) :
  ∃e X1 X2 t' d',evI E lim (.func 20) [.pointer (some ⟨tb,0,none⟩),.agg #[.int .i64 R,.int .i64 M],.agg #[.int .i64 S0,.int .i64 S],.int .i64 s,zv z] X=some (.int .i64 e,X1)/\(∀j,j<X.length->¬ tm t tb j->X1[j]?=X[j]?)/\evI E lim (.func 30) [.pointer (some ⟨db,0,none⟩),.agg #[.int .i64 R,.int .i64 M],.agg #[.int .i64 S0,.int .i64 S],.int .i64 s,zv z] X1=some (.int .i64 e,X2)/\PW E H0 F Z t' tb d' db nb B X2/\Rel t' d':=by
 cases ha:t.act with
 | true =>
  obtain⟨v,X1,e1,rfl,S1⟩:=(P.vt.on C (lim:=lim) ha R M S0 S s z).out;have P1:=P.tstep S1;obtain⟨v,X2,e2,rfl,S2⟩:=(P1.vd.on C (lim:=lim) (H.act.trans ha) R M S0 S s z).out;exact⟨4,X1,X2,t,d,e1,S1.f,e2,P1.dstep S2,H⟩
 | false =>
  obtain⟨v,X1,e1,rfl,S1⟩:=(P.vt.start C (lim:=lim) ha lt hR hM hS hs S0 hz).out;have P1:=P.tstep S1;obtain⟨v,X2,e2,rfl,S2⟩:=(P1.vd.start C (lim:=lim) (H.act.trans ha) ld hR hM hS hs S0 hz).out;exact⟨0,X1,X2,_,_,e1,S1.f,e2,P1.dstep S2,H.start R M S s z⟩
theorem PW.clock {Z:Option ZN}{t:TM}{tb:Nat}{d:DK}{db nb:Nat}{B:Blk}{X:Hp}(P:PW E H0 F Z t tb d db nb B X)(H:Rel t d)(lt:lim<=tb)(ld:lim<=db){R:Int}(hR:0<=R/\R<=9223372036854775807)(M:Int)(j zd:Bool) :
  ∃X1 X2 t' d',evI E lim (.func 26) [.pointer (some ⟨tb,0,none⟩),.agg #[.int .i64 R,.int .i64 M],zv Z,.bool j,.bool zd] X=some (undef,X1)/\X1[nb]?=some B/\evI E lim (.func 32) [.pointer (some ⟨db,0,none⟩),.agg #[.int .i64 R,.int .i64 M],zv Z,.bool j,.bool zd] X1=some (undef,X2)/\PW E H0 F Z t' tb d' db nb B X2/\Rel t' d':=by
 have hR':i64r R:=⟨by omega,hR.2⟩;cases ha:t.act with
 | true =>
  obtain⟨v,X1,e1,rfl,n1,n2,S1⟩:=(P.vt.clock C (lim:=lim) P.c.L ha lt hR' M j zd).out;have P1:=P.tstep S1;obtain⟨v,X2,e2,rfl,S2⟩:=(P1.vd.clock C (lim:=lim) (H.act.trans ha) ld hR' M j zd).out;obtain⟨H1,a1⟩:=H.clk ha hR.1 j n1;exact⟨X1,X2,_,_,e1,P1.now,e2,P1.dstep S2,H1.zon a1 hR.1 Z zd n2⟩
 | false =>
  have P1:=P.app [.cells true [.int .i64 R,.int .i64 M]];exact⟨_,_,t,d,c26_off C P.vt.T.blk ha R M Z j zd,P1.now,c32_off C P1.vd.D (H.act.trans ha) R M Z j zd,P1.app _,H⟩
theorem PW.fire {Z:Option ZN}{t:TM}{tb:Nat}{d:DK}{db nb:Nat}{B:Blk}{X:Hp}(P:PW E H0 F Z t tb d db nb B X)(H:Rel t d)(hF:∀j,F j->j<H0.length){R:Int}(hR:0<=R/\R<=9223372036854775807)(M:Int) :
  ∃o X1,evI E lim (.func 22) [.pointer (some ⟨tb,0,none⟩),.agg #[.int .i64 R,.int .i64 M]] X=some (fireR o,X1)/\X1[nb]?=some B/\∀y,∃X2 t' d',evI E lim (.func 33) [.pointer (some ⟨db,0,none⟩),.agg #[.int .i64 R,.int .i64 M]] (X1++[y])=some (fireR o,X2)/\X2[X1.length]?=some y/\PW E H0 F Z t' tb d' db nb B X2/\Rel t' d':=by
 cases ha:t.act with
 | true =>
  obtain⟨v,X1,e1,rfl,S1⟩:=(P.vt.fire C (lim:=lim) P.c hF ha hR M).out;have P1:=P.tstep S1;refine⟨_,X1,e1,P1.now,fun y=>?_⟩;have P2:=P1.app [y];obtain⟨v,X2,e2,rfl,S2⟩:=(P2.vd.fire C (lim:=lim) P2.c hF (H.act.trans ha) hR M).out;obtain⟨q1,q2⟩:=H.fire C ha P.vt.K P.vd.K hF R M;rw[q1] at e2;exact⟨X2,_,_,e2,(fr_dm S2.f (by simp) (fun h=>by have:=P1.vd.D.dlt h; omega)).trans get_app0,P2.dstep S2,q2⟩
 | false =>
  refine⟨none,X,c22_off C P.vt.T.blk ha R M,P.now,fun y=>?_⟩;have P2:=P.app [y];exact⟨_,t,d,c33_off C P2.vd.D (H.act.trans ha) R M,get_app0,P2,H⟩
theorem PW.other {Z:Option ZN}{t t' t1:TM}{tb tb':Nat}{d:DK}{db nb:Nat}{B:Blk}{X X':Hp}(P:PW E H0 F Z t' tb' d db nb B X)(Q:PW E H0 F Z t tb d db nb B X)(hd:∀j,tm t' tb' j->¬ tm t tb j)(S:TStep E H0 F Z t tb t1 X X'):PW E H0 F Z t' tb' d db nb B X'/\PW E H0 F Z t1 tb d db nb B X'/\∀j,tm t' tb' j->¬ tm t1 tb j:=by
 refine⟨P.keep fun j hj h=>S.f j hj fun ht=>?_,Q.tstep S,fun j hj h=>?_⟩
 ·rcases h with h | h | h | rfl
  ·exact hd j h ht
  ·exact Q.s j ht h
  ·exact Q.vt.n j ht h
  ·exact Q.nt ht
 ·rcases S.m j h with h | h
  ·exact hd j hj h
  ·have:=P.vt.T.tlt hj; omega
theorem PW.copy {Z:Option ZN}{t:TM}{tb:Nat}{d:DK}{db nb:Nat}{B:Blk}{X:Hp}(P:PW E H0 F Z t tb d db nb B X)(H:Rel t d)(hF:∀j,F j->j<H0.length)(lt:lim<=tb){R M:Int}(hR:0<=R/\R<=9223372036854775807)(hM:i64r M) :
  ∃tb' X1 e X2 X3 o X4 X5,evI E lim (.func 34) [.pointer (some ⟨tb,0,none⟩)] X=some (.pointer (some ⟨tb',0,none⟩),X1)/\X1[nb]?=some B/\evI E lim (.func 20) [.pointer (some ⟨tb,0,none⟩),.agg #[.int .i64 R,.int .i64 M],.agg #[.int .i64 R,.int .i64 M],.int .i64 (-1),.pointer none] X1=some (.int .i64 e,X2)/\X2[nb]?=some B /\
   evI E lim (.func 27) [.pointer (some ⟨tb,0,none⟩),.bool true,.agg #[.int .i64 R,.int .i64 M]] X2=some (undef,X3)/\X3[nb]?=some B/\evI E lim (.func 22) [.pointer (some ⟨tb,0,none⟩),.agg #[.int .i64 R,.int .i64 M]] X3=some (fireR o,X4)/\evI E lim (.func 31) [.pointer (some ⟨tb,0,none⟩)] X4=some (undef,X5) /\
   ∃t',PW E H0 F Z t' tb' d db nb B X5/\Rel t' d/\lim<=tb':=by
 have hR':i64r R:=⟨by omega,hR.2⟩;have lx:=lt_of_get P.vt.T.blk;obtain⟨v,X1,e34,tb',rb',wb',rfl,T',f,l1,l2,l3,l4⟩:=(c34 C (lim:=lim) P.vt.T (by omega)).out;have Q1:=P.keep (X':=X1) fun j hj _=>f j hj
 have big:∀j,tm ({ t with rb:=rb',wb:=wb' }:TM) tb' j->X.length<=j:=fun j hj=>by
  rcases hj with rfl | h | h
  ·exact l1
  ·exact l2 j h
  ·exact l3 j h
 have P1:PW E H0 F Z { t with rb:=rb',wb:=wb' } tb' d db nb B X1:=⟨⟨T',⟨P.vt.W.sh,fun h=>l4 (P.vt.W.no h) h⟩,P.vt.K,fun j hj hj2=>by have:=big j hj; have:=P.c.L j hj2; omega⟩,Q1.vd,Q1.c,fun j hj hj2=>by have:=big j hj; have:=P.vd.D.dlt hj2; omega,Q1.now,fun h=>by have:=big nb h; have:=lt_of_get P.now; omega,P.nd⟩;have d1:∀j,tm ({ t with rb:=rb',wb:=wb' }:TM) tb' j->¬ tm t tb j:=fun j hj hj2=>by have:=big j hj; have:=P.vt.T.tlt hj2; omega
 have H1:Rel { t with rb:=rb',wb:=wb' } d:=⟨H.k,H.act,H.oc,H.oz,H.raw,H.same,H.ws⟩
 have st:∃e X2 t2,evI E lim (.func 20) [.pointer (some ⟨tb,0,none⟩),.agg #[.int .i64 R,.int .i64 M],.agg #[.int .i64 R,.int .i64 M],.int .i64 (-1),.pointer none] X1=some (.int .i64 e,X2)/\TStep E H0 F Z t tb t2 X1 X2/\t2.act=true:=by
  cases ha:t.act with
  | true =>
   obtain⟨v,X2,e1,rfl,S1⟩:=(Q1.vt.on C (lim:=lim) ha R M R M (-1) none).out;exact⟨4,X2,t,e1,S1,ha⟩
  | false =>
   obtain⟨v,X2,e1,rfl,S1⟩:=(Q1.vt.start C (lim:=lim) ha lt hR' hM hM (s:=-1) (by unfold i64r; omega) R (z:=none) (.inl rfl)).out;exact⟨0,X2,_,e1,S1,rfl⟩
 obtain⟨e,X2,t2,e20,S1,a2⟩:=st;obtain⟨P2,Q2,d2⟩:=P1.other C Q1 d1 S1;obtain⟨v,X3,e27,rfl,S2⟩:=(Q2.vt.unit C (lim:=lim) true R hM).out;obtain⟨P3,Q3,d3⟩:=P2.other C Q2 d2 S2;obtain⟨v,X4,e22,rfl,S3⟩:=(Q3.vt.fire C (lim:=lim) Q3.c hF a2 hR M).out;obtain⟨P4,Q4,d4⟩:=P3.other C Q3 d3 S3;obtain⟨v,X5,e31,rfl,S4⟩:=(Q4.vt.stop C (lim:=lim)).out;obtain⟨P5,-,-⟩:=P4.other C Q4 d4 S4;exact⟨tb',X1,e,X2,X3,_,X4,X5,e34,P1.now,e20,P2.now,e27,P3.now,e22,e31,_,P5,H1,by omega⟩
theorem loop7 {Z:Option ZN}{p:Option Addr}(hp:zv Z=.pointer p)(hF:∀j,F j->j<H0.length){la:Option Addr}{ln le:Nat}{cv:Nat->LD}(S:SlK 6 H0 la ln le fun j=>(cv j).cs)(hcv:∀j,j<ln->(cv j).Ok)(SF:0<ln->∀A,la=some A->F A.block)(hln:ln<=40)
  {tb db nb:Nat}{B:Blk}{X0:Hp}(V0:PL E H0 F Z lim tb db nb B X0){f:Fr}(f0:NP la ln le p tb db 0 f){P:AX->Fr->Hp->Prop}
  (hP:∀f' X',Ctx H0 F X'->P (.exit 0) f' X')(hR:∀f' X',Ctx H0 F X'->f'.rd 4=.bool true->P .ret f' X'):Post (evK E lim (.loop lp7_0) f X0) P:=by
 have hE:=C.hE;refine loop_post hE.mono (fun q g X=>∃(i tb nb:Nat) (B:Blk),i<=ln/\PL E H0 F Z lim tb db nb B X/\NP la ln le p tb db i g/\ln-i=q) ?_ ln _ _ ⟨0,tb,nb,B,Nat.zero_le _,V0,f0,rfl⟩;clear f0 V0 tb nb B;rintro q g X ⟨i,tb,nb,B,hi,V,⟨g1,g5,g7,g8,g9⟩,hq⟩
 by_cases hlt:(i:Int)<ln
 case neg =>
  simp only[push_cast,lp7_0,g1,g9,hlt,simprocAttr];obtain⟨t,d,V,-⟩:=V;exact hP _ _ V.c
 have hi':i<ln:=by omega
 have a2:(0<=(i:Int))=True:=by simp
 have a8:=wn1 (i:=i);unfold lp7_0;refine post_mid hE.mono (fun g X'=>X'=X/\NP la ln le p tb db i g) (by simp only[push_cast,NP,g1,g5,g7,g8,g9,hlt,simprocAttr]) ?_;clear g1 g5 g7 g8 g9 g;rintro g X' ⟨rfl,g1,g5,g7,g8,g9⟩;refine post_mid hE.mono (fun g X=>∃tb nb B,PL E H0 F Z lim tb db nb B X/\NP la ln le p tb db i g) ?_ ?_
 case refine_2 =>
  clear V g1 g5 g7 g8 g9 g tb nb B;rintro g X ⟨tb,nb,B,V,g1,g5,g7,g8,g9⟩;simp only[push_cast,g9,a8,simprocAttr];exact⟨_,(by omega:ln-(i+1)<q),i+1,tb,nb,B,by omega,V,⟨by simp[g1],by simp[g5],by simp[g7],by simp[g8],by simp⟩,rfl⟩
 refine post_blk hE.mono ?_;obtain⟨t,d,VV,Rl,lt,ld⟩:=V;obtain⟨b,o,own,cs,rfl,rfl,h1,h2,h3⟩:=S (by omega);have h1':X'[b]?=some (.cells own cs):=(VV.c.R b (SF (by omega) _ rfl)).trans h1;have h4:=h3 i hi';have h5:=mul_le_in (k:=6) hi';have h6:(o+i*6+6<=cs.length)=True:=eq_true (by omega);have ok:=hcv i hi';have h4:(cs.drop (o+i*6)).take 6=(cv i).cs:=h4;generalize cv i=x at *;simp only[LD.cs] at h4;obtain⟨cb,hcb⟩:∃cb,cb=X'.length:=⟨_,rfl⟩;refine post_mid hE.mono (fun g W=>X'++[.cells true x.cs]=W/\NP (some ⟨b,o,none⟩) ln 6 p tb db i g/\g.rd 10=.pointer (some ⟨cb,0,none⟩)) ?_ ?_
 ·simp only[push_cast,NP,g1,g5,g7,g8,g9,a2,h1',h4,h6,hlt,hi',LD.cs,hcb,simprocAttr]
 clear g1 g5 g7 g8 g9 g;rintro g W ⟨hW,⟨g1,g5,g7,g8,g9⟩,g10⟩;have V:=VV.new (.cells true x.cs);rw[hW,<- hcb] at V;clear hW h1' hcb VV
 by_cases hneg:x.real<0
 ·have xn:=V.now;simp only[LD.cs] at xn;have e17:=c17 C (lim:=lim) (h:=W);simp only[push_cast,g1,g5,g7,g8,g9,g10,xn,hneg,e17,simprocAttr];exact hR _ _ V.c (by simp)
 refine post_mid hE.mono (fun g X=>W=X/\NP (some ⟨b,o,none⟩) ln 6 p tb db i g/\g.rd 10=.pointer (some ⟨cb,0,none⟩)) ?_ ?_
 ·have xn:=V.now;simp only[LD.cs] at xn;simp only[push_cast,NP,g1,g5,g7,g8,g9,g10,xn,hneg,simprocAttr]
 clear g1 g5 g7 g8 g9 g10 g;rintro g X ⟨rfl,⟨g1,g5,g7,g8,g9⟩,g10⟩;have R0:0<=x.real/\x.real<=9223372036854775807:=⟨by omega,ok.real.2⟩;refine post_mid hE.mono (fun g X=>∃tb nb B,PL E H0 F Z lim tb db nb B X/\NP (some ⟨b,o,none⟩) ln 6 p tb db i g) ?_ ?_
 case refine_2 =>
  clear V Rl lt g1 g5 g7 g8 g9 g10 g tb nb t d ld;rintro g X ⟨tb,nb,B,⟨t,d,V,Rl,lt,ld⟩,g1,g5,g7,g8,g9⟩;obtain⟨pa,ea,pb,eb,n,X1,X2,e24,e36,e25,V2⟩:=V.wins C (lim:=lim) Rl hF (by have:=lt_of_get V.vt.T.blk; omega);have e35:=c35 C (lim:=lim) (h:=X) V.vt.T.blk;have hd:=V.vd.D.blk;have hact:=Rl.act;simp only[DK.cs,CD.cs,List.cons_append,List.nil_append,hact] at hd;have q:eqV false [LK.bool] (.bool t.act) (.bool t.act)=some true:=by simp[eqV,lksEq,lkEq]
  simp only[push_cast,g1,g5,g7,g8,g9,e35,hd,q,e24,e36,e25,simprocAttr];exact⟨tb,nb,B,⟨t,d,V2,Rl,lt,ld⟩,⟨by simp[g1],by simp[g5],by simp[g7],by simp[g8],by simp[g9]⟩⟩
 refine post_mid hE.mono (fun g X=>W=X/\NP (some ⟨b,o,none⟩) ln 6 p tb db i g/\g.rd 10=.pointer (some ⟨cb,0,none⟩)/\g.rd 57=.int .u8 x.kind) ?_ ?_
 ·have xn:=V.now;simp only[LD.cs] at xn;simp only[push_cast,NP,g1,g5,g7,g8,g9,g10,xn,simprocAttr]
 clear g1 g5 g7 g8 g9 g10 g;rintro g X ⟨rfl,⟨g1,g5,g7,g8,g9⟩,g10,g57⟩;refine post_blk hE.mono ?_;have xn:=V.now;simp only[LD.cs] at xn;have xn':∀l,(W++l)[cb]?=_:=fun l=>get_old xn;cases hk0:(x.kind==0) with
 | true =>
  obtain⟨hS,hw⟩:=half_ok C ok.mono;have V1:=V.app [.cells true [.int .i64 0,.int .i64 (x.mono.tdiv 2)]];have hs0:(W++[Blk.cells true [.int .i64 0,.int .i64 (x.mono.tdiv 2)]])[W.length]?=some (.cells true [.int .i64 0,.int .i64 (x.mono.tdiv 2)]):=get_app0;cases hb:x.b with
  | true =>
   obtain⟨e,X1,X2,t',d',e20,f1,e30,V2,R2⟩:=V1.start C Rl lt ld ok.real ok.mono hS ok.stamp 0 (z:=none) (.inl rfl);have y1:=(f1 cb (lt_of_get V1.now) V1.nt).trans V1.now;have y2:=(f1 W.length (by simp) (fun h=>by have:=V.vt.T.tlt h; omega)).trans hs0;simp only[LD.cs,hb] at y1;rw[hb] at xn xn';simp only[zv] at e20 e30;simp only[push_cast,g1,g5,g7,g8,g9,g10,g57,hk0,xn,xn',hw,e20,y1,y2,e30,sureL,simprocAttr];exact⟨tb,cb,_,⟨t',d',V2,R2,lt,ld⟩,⟨by simp[g1],by simp[g5],by simp[g7],by simp[g8],by simp[g9]⟩⟩
  | false =>
   obtain⟨e,X1,X2,t',d',e20,f1,e30,V2,R2⟩:=V1.start C Rl lt ld ok.real ok.mono hS ok.stamp 0 (z:=Z) (.inr rfl);have y1:=(f1 cb (lt_of_get V1.now) V1.nt).trans V1.now;have y2:=(f1 W.length (by simp) (fun h=>by have:=V.vt.T.tlt h; omega)).trans hs0;simp only[LD.cs,hb] at y1;rw[hb] at xn xn';simp only[hp] at e20 e30;simp only[push_cast,g1,g5,g7,g8,g9,g10,g57,hk0,xn,xn',hw,e20,y1,y2,e30,sureL,simprocAttr];exact⟨tb,cb,_,⟨t',d',V2,R2,lt,ld⟩,⟨by simp[g1],by simp[g5],by simp[g7],by simp[g8],by simp[g9]⟩⟩
 | false =>
 cases hk1:(x.kind==1) with
 | true =>
  obtain⟨v,X1,e31,rfl,S1⟩:=(V.vt.stop C (lim:=lim)).out;have V1:=V.tstep S1;have S2:=DV.put C V1.vd (d':={ d with act:=false }) rfl rfl V1.vd.D.acc V1.vd.K.ok rfl rfl;have hd:=V1.vd.D.blk;obtain⟨Y,hY⟩:∃Y,Y=({ d with act:=false }:DK).cs:=⟨_,rfl⟩;rw[<- hY] at S2;simp only[DK.cs,CD.cs,List.cons_append,List.nil_append] at hd hY;simp only[push_cast,g1,g5,g7,g8,g9,g10,g57,hk0,hk1,e31,hd,simprocAttr];rw[<- hY];exact⟨tb,cb,_,⟨_,_,V1.dstep S2,Rl.stop,lt,ld⟩,⟨by simp[g1],by simp[g5],by simp[g7],by simp[g8],by simp[g9]⟩⟩
 | false =>
 cases hk2:(x.kind==2) with
 | true =>
  obtain⟨v,X1,e27,rfl,S1⟩:=(V.vt.unit C (lim:=lim) x.b x.real ok.mono).out;have V1:=V.tstep S1;have y1:=V1.now;simp only[LD.cs] at y1
  have S2:=DV.put C V1.vd (d':=d.unit x.b x.mono) rfl rfl V1.vd.D.acc (by
   have K:=V1.vd.K.ok;cases x.b with
   | true=>exact⟨K.late,K.acc,K.st,K.ac,ok.mono,K.dn⟩
   | false=>exact⟨K.late,K.acc,K.st,K.ac,K.up,ok.mono⟩) rfl rfl
  have hd:=V1.vd.D.blk;obtain⟨Y,hY⟩:∃Y,Y=(d.unit x.b x.mono).cs:=⟨_,rfl⟩;rw[<- hY] at S2;have fin:PL E H0 F Z lim tb db cb (.cells true x.cs) (X1.set db (.cells true Y)):=⟨_,_,V1.dstep S2,Rl.unit x.b x.mono,lt,ld⟩;cases hb:x.b with
  | true =>
   rw[hb] at xn xn' y1 e27 hY;simp only[DK.unit,DK.cs,CD.cs,List.cons_append,List.nil_append,if_true] at hd hY;simp only[push_cast,g1,g5,g7,g8,g9,g10,g57,hk0,hk1,hk2,xn,e27,y1,hd,sureL,simprocAttr];rw[<- hY];exact⟨tb,cb,_,fin,⟨by simp[g1],by simp[g5],by simp[g7],by simp[g8],by simp[g9]⟩⟩
  | false =>
   rw[hb] at xn xn' y1 e27 hY;simp only[DK.unit,DK.cs,CD.cs,List.cons_append,List.nil_append,Bool.false_eq_true,if_false] at hd hY;simp only[push_cast,g1,g5,g7,g8,g9,g10,g57,hk0,hk1,hk2,xn,e27,y1,hd,sureL,simprocAttr];rw[<- hY];exact⟨tb,cb,_,fin,⟨by simp[g1],by simp[g5],by simp[g7],by simp[g8],by simp[g9]⟩⟩
 | false =>
 cases hk3:(x.kind==3) with
 | true =>
  obtain⟨X1,X2,t',d',e26,y1,e32,V2,R2⟩:=V.clock C (lim:=lim) Rl lt ld R0 x.mono x.b x.c;simp only[LD.cs] at y1;rw[hp] at e26 e32;simp only[push_cast,g1,g5,g7,g8,g9,g10,g57,hk0,hk1,hk2,hk3,xn,e26,y1,e32,sureL,simprocAttr];exact⟨tb,cb,_,⟨t',d',V2,R2,lt,ld⟩,⟨by simp[g1],by simp[g5],by simp[g7],by simp[g8],by simp[g9]⟩⟩
 | false =>
 cases hk4:(x.kind==4) with
 | true =>
  obtain⟨ff,X1,e22,y1,e33⟩:=V.fire C (lim:=lim) Rl hF R0 x.mono;obtain⟨a,e,is,hff⟩:=fireR_is C ff;rw[hff] at e22 e33;obtain⟨X2,t',d',e33,y2,V2,R2⟩:=e33 (.cells true [.int .u8 a,.int .i64 e]);have y3:=V2.now;have y1':∀l,(X1++l)[cb]?=_:=fun l=>get_old y1;have y2':∀l,(X2++l)[X1.length]?=_:=fun l=>get_old y2;simp only[LD.cs] at y1 y1';have q1:eqV true [LK.int .u8,LK.int .i64] (.agg #[.int .u8 a,.int .i64 e]) (.agg #[.int .u8 a,.int .i64 e])=some true:=by simp[eqV,lksEq,lkEq]
  have q2:eqV false [LK.bool] (.bool is) (.bool is)=some true:=by simp[eqV,lksEq,lkEq]
  simp only[push_cast,g1,g5,g7,g8,g9,g10,g57,hk0,hk1,hk2,hk3,hk4,xn,e22,y1,y1',e33,y2,y2',q1,q2,sureL,simprocAttr];exact⟨tb,cb,_,⟨t',d',V2.app _,R2,lt,ld⟩,⟨by simp[g1],by simp[g5],by simp[g7],by simp[g8],by simp[g9]⟩⟩
 | false =>
 cases hk5:(x.kind==5) with
 | true =>
  obtain⟨tb',X1,e,X2,X3,ff,X4,X5,e34,y1,e20,y2,e27,y3,e22,e31,t',V2,R2,lt'⟩:=V.copy C (lim:=lim) Rl hF lt R0 ok.mono;simp only[LD.cs] at y1 y2 y3;simp only[push_cast,g1,g5,g7,g8,g9,g10,g57,hk0,hk1,hk2,hk3,hk4,hk5,xn,e34,y1,e20,y2,e27,y3,e22,e31,sureL,simprocAttr];exact⟨tb',cb,_,⟨t',d,V2,R2,lt',ld⟩,⟨by simp[g1],by simp[g5],by simp,by simp[g8],by simp[g9]⟩⟩
 | false =>
  simp only[push_cast,g1,g5,g7,g8,g9,g10,g57,hk0,hk1,hk2,hk3,hk4,hk5,simprocAttr];exact⟨tb,cb,_,⟨t,d,V,Rl,lt,ld⟩,⟨by simp[g1],by simp[g5],by simp[g7],by simp[g8],by simp[g9]⟩⟩
end
section
open Tb
theorem askf_of {E:Env}{X:Hp}{Z:Option ZN}{lo0:Nat}(zi:zin Z X)(zs:zshut Z X)(zl:∀b,zmem Z b->b<lo0){x:TK}{tb rb:Nat}(S:Spx E X x tb rb)(hl:lo0<=tb){F:Nat->Prop}(hF1:∀j,tb<j->j<rb->F j)(hF2:∀j,j<lo0->F j):∀z,Zo Z z->AskF E X F z x:=by
 intro z hz h1k;obtain⟨lo,hi,a1,a2,a3,a4,a5,a6⟩:=S;have f1:∀j,lo<=j->j<hi->F j:=fun j j1 j2=>hF1 j (by omega) (by omega);have f2:∀i,i<6->∀A,(x.spec.at i).a=some A->F A.block:=fun i hi A hA=>f1 _ (a4 i hi A hA).1 (a4 i hi A hA).2;rcases hz with rfl | rfl
 ·exact⟨lo,hi,⟨a1,a2,a3,(fun Y hY=>by cases hY),(fun Y hY=>by cases hY),fun b hb=>by cases hb⟩,f1,f2,fun b hb=>by cases hb⟩
 ·exact⟨lo,hi,⟨a1,a2,a3,zi,zs,fun b hb=>.inl (by have:=zl b hb; omega)⟩,f1,f2,fun b hb=>hF2 b (zl b hb)⟩
def Fp (h3:Hp)(tb:Nat)(rb:Option Nat)(db:Nat)(r:Option DR)(j:Nat):Prop:=j<h3.length/\j≠tb/\rb≠some j/\j≠db/\∀R,r=some R->j≠R.b/\j≠R.p
variable {E:Env}(C:Conds E){lim:Nat}{h H0:Hp}{F:Nat->Prop}
include C
theorem plays_start {h1 h2 h3:Hp}{c:CD}(H:c.In h1){Z:Option ZN}(zi:zin Z h1)(zs:zshut Z h1)(zl:∀b,zmem Z b->b<h1.length){lv:Int}(l1:0<=lv)(l2:lv<=9223372036854775806)(A2:Agr h1 h2)(A3:Agr h2 h3)
  {t:TM}{tb:Nat}(T:t.In tb h2)(tl:h1.length<=tb)(tk:t.k=⟨lv,c.acc,0,0,-1,-1,none⟩)(ta:t.act=false)(toc:t.oc=c.oc)(toz:t.oz=c.oz)(tw:t.wb=none)(tr:t.xs.map TK.raw=c.gs.filter (keepG E))(t0:∀x∈t.xs,x.base=0/\x.spent=0)(tS:∀b,t.rb=some b->tb<b/\∀x∈t.xs,Spx E h2 x tb b)
  {r:Option DR}{ys:List TK}{db:Nat}(D:(dk0 c lv r ys).In db h3)(dl:h2.length<db)(dr:ys.map TK.raw=c.gs.filter (keepG E))(d0:∀y∈ys,y.base=0/\y.spent=-1)(dS:∀R,r=some R->∀x∈ys,Spx E h3 x db R.l){nb:Nat}{B:Blk}(hn:h3[nb]?=some B)(nl:nb<h1.length){lim:Nat}(hlim:lim<=h1.length) :
  PL E h3 (Fp h3 tb t.rb db r) Z lim tb db nb B h3:=by
 have tws:t.ws=[]:=by have:=T.wai; rw[tw] at this; exact this
 have T3:t.In tb h3:=T.onm fun j hj=>eqAgr A3 (T.tlt hj);have le2:=A2.le;have le3:=A3.le;have lt:=lt_of_get T.blk;have ld:=D.lt.1
 have trb:∀b,t.rb=some b->tb<b/\b<h2.length:=fun b hb=>⟨(tS b hb).1,by
  have:=T.row;rw[hb] at this;exact lt_of_get this.2⟩
 have dR:∀R,r=some R->db<R.l/\R.l<R.s/\R.s<R.b/\R.b<R.p/\R.p<h3.length:=fun R hR=>by
  have T:=D.row;rw[show(dk0 c lv r ys).r=some R from hR] at T;obtain⟨q1,q2,q3,q4,-,-,-,q5⟩:=T;exact⟨q1,q2,q3,q4,lt_of_get q5⟩
 have zi3:zin Z h3:=by
  obtain⟨l,rfl⟩:=A2.out;obtain⟨l,rfl⟩:=A3.out;exact zi.grow.grow
 have zs3:zshut Z h3:=zshut.agr zs fun b hb=>eqAgr (A2.trans A3) (zl b hb);have low:∀j,j<h1.length->Fp h3 tb t.rb db r j:=fun j hj=>⟨by omega,by omega,fun e=>by have:=trb j e; omega,by omega,fun R hR=>by have:=dR R hR; omega⟩
 have kok:∀k:KN,k=⟨lv,c.acc,0,0,-1,-1,none⟩->k.Ok/\(0<=k.late/\k.late<=9223372036854775806)/\Zo Z k.z:=fun k hk=>by
  subst hk;have:=H.acc;exact⟨⟨⟨by show -9223372036854775808<=lv; omega,by show lv<=9223372036854775807; omega⟩,this,by simp[i64r],by simp[i64r],by simp[i64r],by simp[i64r]⟩,⟨l1,l2⟩,.inl rfl⟩
 have span:∀ {zs:List TK},zs.map TK.raw=c.gs.filter (keepG E)->∀x∈zs,i64r x.span:=fun hz x hx=>by
  have:x.raw∈_:=List.mem_map_of_mem hx;rw[hz,List.mem_filter] at this;exact H.span _ this.1
 obtain⟨k1,k2,k3⟩:=kok _ tk;obtain⟨k4,k5,k6⟩:=kok (dk0 c lv r ys).k rfl
 have KT:KV E h3 (Fp h3 tb t.rb db r) Z t.k t.xs:=⟨k1,k2,k3,fun x hx=>by
  refine⟨⟨span tr x hx,by rw[(t0 x hx).1]; simp[i64r],by rw[(t0 x hx).2]; simp[i64r]⟩,?_⟩
  obtain⟨b,hb⟩:∃b,t.rb=some b:=by
   cases hrb:t.rb with
   | some b=>exact⟨b,rfl⟩
   | none =>
    have:=T.row;rw[hrb] at this;have this:t.xs=[]:=this;rw[this] at hx;cases hx
  have bb:=trb b hb;refine askf_of zi3 zs3 zl (((tS b hb).2 x hx).of (fun j j1 j2=>eqAgr A3 (by omega)) (Nat.le_refl _)) tl (fun j j1 j2=>⟨by omega,by omega,fun e=>?_,by omega,fun R hR=>by have:=dR R hR; omega⟩) low;rw[hb] at e
  injection e with e
  omega⟩
 have KD:KV E h3 (Fp h3 tb t.rb db r) Z (dk0 c lv r ys).k (dk0 c lv r ys).ys:=⟨k4,k5,k6,fun x hx=>by
  have hx:x∈ys:=hx;refine⟨⟨span dr x hx,by rw[(d0 x hx).1]; simp[i64r],by rw[(d0 x hx).2]; simp[i64r]⟩,?_⟩
  obtain⟨R,hR⟩:∃R,r=some R:=by
   cases hr:r with
   | some R=>exact⟨R,rfl⟩
   | none =>
    have:=D.row;rw[show(dk0 c lv r ys).r=none from hr] at this;have this:ys=[]:=this;rw[this] at hx;cases hx
  have bb:=dR R hR;refine askf_of zi3 zs3 zl (dS R hR x hx) (by omega) (fun j j1 j2=>⟨by omega,by omega,fun e=>by have:=trb j e; omega,by omega,fun R' hR'=>?_⟩) low;rw[hR] at hR'
  injection hR' with e
  subst e;omega⟩
 have nf:∀j,tm t tb j->j<db/\h1.length<=j:=fun j hj=>by
  rcases hj with rfl | h | h
  ·omega
  ·have:=trb j h; omega
  ·rw[tw] at h; cases h
 refine⟨t,dk0 c lv r ys,⟨⟨T3,⟨⟨none,none,tws⟩,fun _=>tw⟩,KT,fun j hj hF=>?_⟩,⟨D,KD,fun hF=>hF.2.2.2.1 rfl,fun R hR=>⟨fun hF=>(hF.2.2.2.2 R hR).1 rfl,fun hF=>(hF.2.2.2.2 R hR).2 rfl⟩⟩,⟨fun _ _=>rfl,fun j hj=>hj.1⟩,fun j hj hd=>?_,hn,fun hj=>?_,fun hd=>?_⟩,⟨by rw[tk]; rfl,by rw[ta]; rfl,toc.symm,toz.symm,tr.trans dr.symm,(fun h=>by rw[ta] at h; cases h),(fun h=>by rw[ta] at h; cases h)⟩,by omega,by omega⟩
 ·rcases hj with rfl | h | h
  ·exact hF.2.1 rfl
  ·exact hF.2.2.1 h
  ·rw[tw] at h; cases h
 ·have:=nf j hj;rcases hd with rfl | ⟨R,hR,hd⟩
  ·omega
  ·have:=dR R hR; omega
 ·have:=nf nb hj; omega
 ·rcases hd with rfl | ⟨R,hR,hd⟩
  ·omega
  ·have:=dR R hR; omega
theorem c7 {c:CD}(H:c.In h){la:Option Addr}{ln le:Nat}{cv:Nat->LD}(S:SlK 6 h la ln le fun j=>(cv j).cs)(hcv:∀j,j<ln->(cv j).Ok) :
  evI E lim (.func 7) [.agg c.cs.toArray,.slice la ln le] h=some (.bool true,h):=by
 have hE:=C.hE;refine PostV.eq ?_;have H1:=H.grow [.cells true c.cs];obtain⟨v,h1,e15,Z,ok,rfl,A1,zi,zn⟩:=(c15 C (lim:=h.length) H1 (by simp)).out;have Hc:=H1.agr A1;have l1:h.length+1<=h1.length:=by have:=A1.le; simpa using this
 obtain⟨r,e23,hr⟩:=c23 C (lim:=h.length) Hc la ln le;obtain⟨p,hp⟩:=zv_ptr Z;rw[hp] at e15;have b1':h1[h.length]?=some (.cells true c.cs):=A1 _ _ get_app0;have agr1:Agr h h1:=(Agr.app _ _).trans A1
 have fin:∀X:Hp,Agr h X->X.take h.length=h:=fun X a=>take_ext hE rfl a.le fun i hi=>by
  rw[List.getElem?_eq_getElem hi];exact a _ _ (List.getElem?_eq_getElem hi)
 refine post_fn hE T7 (Nat.le_of_ble_eq_true rfl) ?_;show Post (evK E h.length ac7 _ _) _;unfold ac7;refine post_mid hE.mono (fun g W=>h++[.cells true c.cs]=W/\g.rd 1=.slice la ln le/\g.rd 2=.pointer (some ⟨h.length,0,none⟩)) (by simp only[push_cast,CD.cs,simprocAttr]) ?_;rintro g W ⟨rfl,g1,g2⟩;have b0:(h++[Blk.cells true c.cs])[h.length]?=some (.cells true c.cs):=get_app0;refine post_mid hE.mono (fun g W=>h1=W/\g.rd 1=.slice la ln le/\g.rd 2=.pointer (some ⟨h.length,0,none⟩)/\g.rd 5=.pointer p/\g.rd 6=.bool ok) ?_ ?_
 ·generalize hX0:h++[Blk.cells true c.cs]=X0 at b0 e15 ⊢;simp only[CD.cs] at b0 e15;simp only[push_cast,g1,g2,b0,e15,simprocAttr]
 clear g1 g2 g;rintro g W ⟨rfl,g1,g2,g5,g6⟩;refine post_mid hE.mono (fun g W=>(h1=W/\g.rd 1=.slice la ln le/\g.rd 2=.pointer (some ⟨h.length,0,none⟩)/\g.rd 5=.pointer p)/\r=true) ?_ ?_
 ·refine post_mid hE.mono (fun g W=>(h1=W/\g.rd 1=.slice la ln le/\g.rd 2=.pointer (some ⟨h.length,0,none⟩)/\g.rd 5=.pointer p)/\∃bb,g.rd 30=.bool bb/\(bb=false->r=true)) ?_ ?_
  ·have b1x:=b1';simp only[CD.cs] at b1x e23;cases ok with
   | false =>
    simp only[push_cast,g1,g2,g5,g6,b1x,simprocAttr];exact⟨_,rfl,fun h=>by cases h⟩
   | true =>
    cases r with
    | false =>
     simp only[push_cast,g1,g2,g5,g6,b1x,e23,simprocAttr];exact⟨_,rfl,fun h=>by cases h⟩
    | true =>
     simp only[push_cast,g1,g2,g5,g6,b1x,e23,simprocAttr];exact⟨_,rfl⟩
  ·clear g1 g2 g5 g6 g;rintro g W ⟨⟨rfl,g1,g2,g5⟩,bb,g30,hbb⟩;cases bb with
   | true =>
    have e17:=fun l=>c17 C (lim:=l) (h:=h1);simp only[push_cast,g30,e17,simprocAttr];exact fin _ agr1
   | false =>
    have:=hbb rfl;simp only[push_cast,g30,g1,g2,g5,simprocAttr];exact this
 clear g1 g2 g5 g6 g;rintro g W ⟨⟨rfl,g1,g2,g5⟩,hr1⟩;obtain⟨n1,n2,n3⟩:=hr hr1;have zl:∀b,zmem Z b->b<h1.length:=fun b hb=>zmem_lt (fun Y hY=>(zn Y hY).2) hb;obtain⟨v,h2,e18,t,tb,rfl,T,A2,tl,tk,ta,toc,toz,tw,tr,t0,tS⟩:=(c18 C (lim:=h.length) (h:=h1) Hc.row (by omega) c.keyOk c.nm (by omega) (acc:=c.acc) (rnd:=c.rnd) H.rnd.2 c.per c.oc c.oz c.un (by omega)).out;have l2:=A2.le;obtain⟨v,h3,e29,r',ys,db,rfl,D,A3,dl,⟨dr,d0⟩,dS⟩:=(c29 C (lim:=h.length) (Hc.agr A2) (by omega) (by omega) (by omega)).out;obtain⟨-,l1',l2',-,-⟩:=late_is C c.keyOk c.nm (by omega) (r:=c.rnd) H.rnd.2;generalize hlv:lateV E c.key c.nm c.rnd=lv at *;have b2:h2[h.length]?=some (.cells true c.cs):=A2 _ _ b1';have b3:h3[h.length]?=some (.cells true c.cs):=A3 _ _ b2;have agr3:Agr h h3:=(agr1.trans A2).trans A3;have V:=plays_start C (lim:=h.length) Hc zi (fun Y hY=>(zn Y hY).2) zl l1' (by omega) A2 A3 T tl tk ta toc toz tw tr t0 tS D dl dr d0 dS b3 (by omega) (by omega);refine post_mid hE.mono (fun g W=>h3=W/\g.rd 1=.slice la ln le/\g.rd 5=.pointer p/\g.rd 7=.pointer (some ⟨tb,0,none⟩)/\g.rd 8=.pointer (some ⟨db,0,none⟩)) ?_ ?_
 ·have y1:=bytes_refl c.un;have y2:=bytes_refl c.nm;have y3:=bytes_refl c.z.ft;simp only[CD.cs] at b1' b2 e29;simp only[CD.key] at e18;simp only[push_cast,g1,g2,g5,b1',b2,e18,e29,sureL,y1,y2,y3,simprocAttr]
 clear g1 g2 g5 g;rintro g W ⟨rfl,g1,g5,g7,g8⟩
 have inF:∀j,j<h1.length->Fp h3 tb t.rb db r' j:=fun j hj=>by
  have:=A3.le;refine⟨by omega,by omega,fun e=>?_,by omega,fun R hR=>?_⟩
  ·have:=(tS j e).1;omega
  ·have T:=D.row;rw[show(dk0 c lv r' ys).r=some R from hR] at T;omega
 have back:∀X',Ctx h3 (Fp h3 tb t.rb db r') X'->Agr h X':=fun X' cX j k hj=>by
  have lj:=lt_of_get hj;exact(cX.R j (inF j (by omega))).trans (agr3 _ _ hj)
 refine post_mid hE.mono (fun g W=>Agr h W) ?_ ?_
 ·simp only[push_cast,g1,g5,g7,g8,simprocAttr];refine loop7 C hp (fun j hj=>hj.1) (S.agr agr3) hcv (fun h0 A hA=>?_) n3 V ⟨by simp[g1],by simp[g5],by simp[g7],by simp[g8],by simp⟩ ?_ ?_
  ·obtain⟨b,o,own,cs,rfl,-,e,-⟩:=S h0;cases hA;have:=lt_of_get e;exact inF b (by omega)
  ·intro f' X' cX;simp only[push_cast,simprocAttr];exact back X' cX
  ·intro f' X' cX hf;simp only[push_cast,hf,simprocAttr];exact fin _ (back X' cX)
 clear g1 g5 g7 g8 g;rintro g W aW;have e17:=fun l=>c17 C (lim:=l) (h:=W);simp only[push_cast,e17,simprocAttr];exact fin _ aW
end
section
open Tb
variable {E:Env}(C:Conds E){lim:Nat}{h H0:Hp}{F:Nat->Prop}
include C
theorem loop6 {tb nb:Nat}{Z:Option ZN}{lv:Int}{rb:Option Nat}{p:Option Addr}(hp:zv Z=.pointer p)(B:NF H0 F tb nb rb)(hF:∀j,F j->j<H0.length)(hlim:lim<=tb)(lv1:0<=lv)(lv2:lv<=9223372036854775806)
  {sa:Option Addr}{sn se:Nat}{sv:Nat->Int}(S:SlK 1 H0 sa sn se fun j=>[.int .u32 (sv j)])(sb:∀j,j<sn->0<=sv j/\sv j<4294967296)(SF:0<sn->∀A,sa=some A->F A.block)(hsn:sn<=30){jump:Int}(j1:-1125899906842624<=jump)(j2:jump<=1125899906842624)
  {t:TM}{X0:Hp}{R M:Int}(V0:NV E H0 F tb nb Z lv rb t R M X0)(w0:t.ws=[])(hR:0<=R/\R<=1125899906842624)(hM:0<=M/\M<=1000){f:Fr}(f0:NR sa sn se jump p tb nb lv 0 f){P:AX->Fr->Hp->Prop}
  (hP:∀f' X',Ctx H0 F X'->P (.exit 0) f' X'):Post (evK E lim (.loop lp6_0) f X0) P:=by
 have hE:=C.hE;refine loop_post hE.mono (fun q g X=>∃(i:Nat) (t:TM) (R M:Int),i<=sn/\NV E H0 F tb nb Z lv rb t R M X/\t.ws=[]/\(0<=R/\R<=1125899906842624*((i:Int)+1)+4294967295000*i)/\(0<=M/\M<=1000+4294967295000*i)/\NR sa sn se jump p tb nb lv i g/\sn-i=q) ?_ sn _ _ ⟨0,t,R,M,Nat.zero_le _,V0,w0,by simpa using hR,by simpa using hM,f0,rfl⟩;clear f0 V0 w0 hR hM t R M;rintro q g X ⟨i,t,R,M,hi,V,w,hR,hM,⟨g2,g3,g9,g11,g12,g13,g14⟩,hq⟩
 by_cases hlt:(i:Int)<sn
 case neg =>
  simp only[push_cast,lp6_0,g2,g14,hlt,simprocAttr];exact hP _ _ V.c
 have hi':i<sn:=by omega
 have e1:(0<=(i:Int))=True:=by simp
 have e3:=wn1 (i:=i);unfold lp6_0;refine post_mid hE.mono (fun g X'=>X'=X/\NR sa sn se jump p tb nb lv i g) (by simp only[push_cast,NR,g2,g3,g9,g11,g12,g13,g14,hlt,simprocAttr]) ?_;clear g2 g3 g9 g11 g12 g13 g14 g;rintro g X' ⟨rfl,g2,g3,g9,g11,g12,g13,g14⟩;refine post_mid hE.mono (fun g X=>∃(t:TM) (R M:Int),NV E H0 F tb nb Z lv rb t R M X/\t.ws=[]/\(0<=R/\R<=1125899906842624*(((i+1:Nat):Int)+1)+4294967295000*((i+1:Nat):Int))/\(0<=M/\M<=1000+4294967295000*((i+1:Nat):Int))/\NR sa sn se jump p tb nb lv i g) ?_ ?_
 case refine_2 =>
  clear V w hR hM g2 g3 g9 g11 g12 g13 g14 g t R M;rintro g X ⟨t,R,M,V,w,hR,hM,g2,g3,g9,g11,g12,g13,g14⟩;simp only[push_cast,g14,e3,simprocAttr];exact⟨_,(by omega:sn-(i+1)<q),i+1,t,R,M,by omega,V,w,hR,hM,⟨by simp[g2],by simp[g3],by simp[g9],by simp[g11],by simp[g12],by simp[g13],by simp⟩,rfl⟩
 refine post_blk hE.mono ?_;obtain⟨b,o,own,cs,rfl,rfl,h1,h2,h3⟩:=S (by omega);have h1':X'[b]?=some (.cells own cs):=(V.c.R b (SF (by omega) _ rfl)).trans h1;have h4:=h3 i hi';have h5:=mul_le_in (k:=1) hi';have h6:o+i*1+1<=cs.length:=by omega
 obtain⟨s1,s2⟩:=sb i hi';obtain⟨s,hs⟩:∃s,sv i=s:=⟨_,rfl⟩;have h4:(cs.drop (o+i*1)).take 1=[Value.int .u32 (sv i)]:=h4;rw[hs] at s1 s2 h4;have ew:IntKind.i64.wrap s=s:=wrap64 (by omega) (by omega);have ew2:=w64 (x:=s*1000);have hbn:b≠nb:=by have:=B.fl b (SF (by omega) _ rfl); omega
 refine post_mid hE.mono (fun g X=>X'=X/\NR (some ⟨b,o,none⟩) sn 1 jump p tb nb lv i g/\g.rd 15=.int .i64 (s*1000)) (by simp only[push_cast,NR,g2,g3,g9,g11,g12,g13,g14,e1,hlt,h1',get1 h4,ew,ew2,hi',simprocAttr]) ?_;clear g2 g3 g9 g11 g12 g13 g14 g;rintro g X ⟨rfl,⟨g2,g3,g9,g11,g12,g13,g14⟩,g15⟩;obtain⟨K,hK⟩:∃K:Int,K=1125899906842624*(((i+1:Nat):Int)+1)+4294967295000*((i+1:Nat):Int):=⟨_,rfl⟩;rw[<- hK];obtain⟨R1,hR1⟩:∃R1,R+s*1000=R1:=⟨_,rfl⟩;obtain⟨M1,hM1⟩:∃M1,M+s*1000=M1:=⟨_,rfl⟩;have wR:IntKind.i64.wrap (R+s*1000)=R1:=by rw[wrap64 (by omega) (by omega)]; exact hR1
 have wM:IntKind.i64.wrap (M+s*1000)=M1:=by rw[wrap64 (by omega) (by omega)]; exact hM1
 have now:=V.now;have ln:=lt_of_get now;refine post_mid hE.mono (fun g X=>X'.set nb (.cells true [.int .i64 R1,.int .i64 M])=X/\NR (some ⟨b,o,none⟩) sn 1 jump p tb nb lv i g/\g.rd 15=.int .i64 (s*1000)) (by simp only[push_cast,NR,g2,g3,g9,g11,g12,g13,g14,g15,now,wR,simprocAttr]) ?_;clear g2 g3 g9 g11 g12 g13 g14 g15 g;rintro g X ⟨rfl,⟨g2,g3,g9,g11,g12,g13,g14⟩,g15⟩;refine post_mid hE.mono (fun g X=>X'.set nb (.cells true [.int .i64 R1,.int .i64 M1])=X/\NR (some ⟨b,o,none⟩) sn 1 jump p tb nb lv i g) (by simp only[push_cast,NR,g2,g3,g9,g11,g12,g13,g14,g15,set_get ln,wM,simprocAttr]) ?_;clear g2 g3 g9 g11 g12 g13 g14 g15 g;rintro g X ⟨rfl,⟨g2,g3,g9,g11,g12,g13,g14⟩⟩;have V1:=V.set B R1 M1;have bR:0<=R1/\R1+1125899906842624<=K:=by omega
 have bM:0<=M1/\M1<=1000+4294967295000*((i+1:Nat):Int):=by omega
 have bK:K<=40000000000000000:=by omega
 have bM':M1<=200000000000000:=by omega
 generalize hX1:X'.set nb (.cells true [.int .i64 R1,.int .i64 M1])=X1 at *;clear hX1 wR wM hR1 hM1 hR hM now ln V h1';refine post_mid hE.mono (fun g X=>∃(t:TM) (R2:Int),NV E H0 F tb nb Z lv rb t R2 M1 X/\(∀p∈t.ws,p.1=7/\p.2<=R2)/\(0<=R2/\R2<=K)/\NR (some ⟨b,o,none⟩) sn 1 jump p tb nb lv i g) ?_ ?_
 ·refine post_mid hE.mono (fun g X=>X1=X/\NR (some ⟨b,o,none⟩) sn 1 jump p tb nb lv i g/\∃bb,g.rd 100=.bool bb) ?_ ?_
  ·cases hb:((i:Int)==IntKind.i64.wrap ((sn:Int).tdiv 2)) with
   | false =>
    simp only[push_cast,NR,g2,g3,g9,g11,g12,g13,g14,hb,simprocAttr];exact⟨_,rfl⟩
   | true =>
    simp only[push_cast,NR,g2,g3,g9,g11,g12,g13,g14,hb,simprocAttr];exact⟨_,rfl⟩
  clear g2 g3 g9 g11 g12 g13 g14 g;rintro g X ⟨rfl,⟨g2,g3,g9,g11,g12,g13,g14⟩,bb,g100⟩;cases bb with
  | false =>
   simp only[push_cast,g100,g2,g3,g9,g11,g12,g13,g14,simprocAttr];exact⟨t,R1,V1,(fun p hp=>by rw[w] at hp; cases hp),⟨bR.1,by omega⟩,by simp only[push_cast,NR,g2,g3,g9,g11,g12,g13,g14,simprocAttr]⟩
  | true =>
   have wj:=w64 (x:=R1+jump);have n1:=V1.now;have V2:=V1.set B (max 0 (R1+jump)) M1;obtain⟨v,X2,e26,rfl,t2,V3,w3⟩:=(V2.clk C (lim:=lim) B hlim ⟨by omega,by omega⟩ w).out;rw[hp] at e26;simp only[push_cast,g100,g2,g3,g9,g11,g12,g13,g14,n1,wj,e26,set_get (lt_of_get n1),simprocAttr];exact⟨t2,max 0 (R1+jump),V3,w3,⟨by omega,by omega⟩,by simp only[push_cast,NR,g2,g3,g9,g11,g12,g13,g14,simprocAttr]⟩
 clear g2 g3 g9 g11 g12 g13 g14 g V1 w t;rintro g X ⟨t,R2,V2,w2,bR2,g2,g3,g9,g11,g12,g13,g14⟩;refine post_mid hE.mono (fun g X=>∃(t:TM),NV E H0 F tb nb Z lv rb t R2 M1 X/\(∀p∈t.ws,p.1=7/\p.2<=R2)/\NR (some ⟨b,o,none⟩) sn 1 jump p tb nb lv i g) ?_ ?_
 ·have X1':=X;refine post_mid hE.mono (fun g Y=>X=Y/\NR (some ⟨b,o,none⟩) sn 1 jump p tb nb lv i g/\∃bb,g.rd 113=.bool bb) ?_ ?_
  ·simp only[push_cast,NR,g2,g3,g9,g11,g12,g13,g14,simprocAttr];exact⟨_,rfl⟩
  clear g2 g3 g9 g11 g12 g13 g14 g;rintro g X ⟨rfl,⟨g2,g3,g9,g11,g12,g13,g14⟩,bb,g113⟩;cases bb with
  | false =>
   simp only[push_cast,g113,g2,g3,g9,g11,g12,g13,g14,simprocAttr];exact⟨t,V2,w2,by simp only[push_cast,NR,g2,g3,g9,g11,g12,g13,g14,simprocAttr]⟩
  | true =>
   have n2:=V2.now;refine post_ct hE g113 ?_;obtain⟨X3,t3,e27,V3,w3⟩:=V2.unit C (lim:=lim) B (M:=M1) ⟨by omega,by omega⟩ ((i:Int).tmod 2==0);simp only[push_cast,g2,g3,g9,g11,g12,g13,g14,n2,e27,simprocAttr];exact⟨t3,V3,by rw[w3]; exact w2,by simp only[push_cast,NR,g2,g3,g9,g11,g12,g13,g14,simprocAttr]⟩
 clear g2 g3 g9 g11 g12 g13 g14 g V2 w2 t;rintro g X ⟨t,V3,w3,g2,g3,g9,g11,g12,g13,g14⟩;have n3:=V3.now;have el:=V3.elapsed C (lim:=lim);obtain⟨bg,hbg⟩:∃bg,(winL E H0 t).any (begun R2 M1)=bg:=⟨_,rfl⟩;rw[hbg] at el;refine post_mid hE.mono (fun g Y=>X=Y/\NR (some ⟨b,o,none⟩) sn 1 jump p tb nb lv i g/\g.rd 16=.bool bg) (by simp only[push_cast,NR,g2,g3,g9,g11,g12,g13,g14,n3,el,simprocAttr]) ?_;clear g2 g3 g9 g11 g12 g13 g14 g;rintro g Y ⟨rfl,⟨g2,g3,g9,g11,g12,g13,g14⟩,g16⟩;obtain⟨X4,e22,V4,l4,fr4⟩:=V3.fire C (lim:=lim) B hF (by omega) (by omega);have fd:=fire_done C (R:=R2) (M:=M1) (V3.ask B hF) (by rw[V3.kl]; omega) (by rw[V3.kl]; omega);have fi:=fire_if (E:=E) (H0:=H0) (t:=t) (M:=M1) w3;have fl:=fun p=>fire_late C (R:=R2) (M:=M1) (V3.ask B hF) w3 (p:=p);rw[V3.kl] at fl;rw[hbg] at fi;generalize hhd:(firedL E H0 t R2 M1++t.ws).head?=hd at *
 obtain⟨fa,fb,er,hfl⟩:∃fa fb,fireR hd=.tuple #[.agg #[.int .u8 fa,.int .i64 fb],.bool bg]/\(bg=true->fa≠7->fb<=(if fa=1 then R2 else M1)-lv):=by
  cases hd with
  | none=>exact⟨0,0,by rw[<- fi]; rfl,fun h=>by rw[<- fi] at h; cases h⟩
  | some p=>exact⟨p.1,p.2,by rw[<- fi]; rfl,fun _ h=>fl p rfl h⟩
 rw[er] at e22;refine post_mid hE.mono (fun g Y=>X4++[.cells true [.int .u8 fa,.int .i64 fb]]=Y/\NR (some ⟨b,o,none⟩) sn 1 jump p tb nb lv i g/\g.rd 16=.bool bg/\g.rd 17=.pointer (some ⟨X4.length,0,none⟩)/\g.rd 18=.bool bg) (by simp only[push_cast,NR,g2,g3,g9,g11,g12,g13,g14,g16,n3,e22,simprocAttr]) ?_;clear g2 g3 g9 g11 g12 g13 g14 g16 g;rintro g Y ⟨rfl,⟨g2,g3,g9,g11,g12,g13,g14⟩,g16,g17,g18⟩;have V5:=V4.app [.cells true [.int .u8 fa,.int .i64 fb]];have n5:=V5.now;have el5:=V5.elapsed C (lim:=lim);rw[fd.1] at el5;refine post_mid hE.mono (fun g Y=>X4++[.cells true [.int .u8 fa,.int .i64 fb]]=Y/\NR (some ⟨b,o,none⟩) sn 1 jump p tb nb lv i g/\g.rd 17=.pointer (some ⟨X4.length,0,none⟩)/\g.rd 18=.bool bg) (by cases bg<;>simp only[push_cast,NR,g2,g3,g9,g11,g12,g13,g14,g16,g17,g18,n5,el5,(show eqV false [LK.bool] (Value.bool false) (Value.bool false)=some true from rfl),(show eqV false [LK.bool] (Value.bool true) (Value.bool true)=some true from rfl),simprocAttr]) ?_;clear g2 g3 g9 g11 g12 g13 g14 g16 g17 g18 g;rintro g Y ⟨rfl,⟨g2,g3,g9,g11,g12,g13,g14⟩,g17,g18⟩;obtain⟨X6,e22,V6,l6,fr6⟩:=V5.fire C (lim:=lim) B hF (by omega) (by omega);rw[fd.2] at e22;simp only[fireR] at e22;have f6:X6[X4.length]?=some (.cells true [.int .u8 fa,.int .i64 fb]):=(fr6 _ (by have:=lt_of_get V4.now; omega)).trans get_app0;have V7:=V6.app [.cells true [.int .u8 0,.int .i64 0]];have n7:=V7.now;have f7:(X6++[Blk.cells true [.int .u8 0,.int .i64 0]])[X4.length]?=some (.cells true [.int .u8 fa,.int .i64 fb]):=get_old f6;refine post_mid hE.mono (fun g Y=>X6++[.cells true [.int .u8 0,.int .i64 0]]=Y/\NR (some ⟨b,o,none⟩) sn 1 jump p tb nb lv i g/\g.rd 17=.pointer (some ⟨X4.length,0,none⟩)/\g.rd 18=.bool bg/\g.rd 20=.bool false) (by simp only[push_cast,NR,g2,g3,g9,g11,g12,g13,g14,g17,g18,n5,e22,simprocAttr]) ?_;clear g2 g3 g9 g11 g12 g13 g14 g17 g18 g;rintro g Y ⟨rfl,⟨g2,g3,g9,g11,g12,g13,g14⟩,g17,g18,g20⟩;refine post_mid hE.mono (fun g Y=>X6++[.cells true [.int .u8 0,.int .i64 0]]=Y/\NR (some ⟨b,o,none⟩) sn 1 jump p tb nb lv i g/\g.rd 17=.pointer (some ⟨X4.length,0,none⟩)/\g.rd 18=.bool bg/\g.rd 20=.bool false/\g.rd 21=.int .i64 M1) (by simp only[push_cast,NR,g2,g3,g9,g11,g12,g13,g14,g17,g18,g20,n7,simprocAttr]) ?_;clear g2 g3 g9 g11 g12 g13 g14 g17 g18 g20 g;rintro g Y ⟨rfl,⟨g2,g3,g9,g11,g12,g13,g14⟩,g17,g18,g20,g21⟩;refine post_mid hE.mono (fun g Y=>X6++[.cells true [.int .u8 0,.int .i64 0]]=Y/\NR (some ⟨b,o,none⟩) sn 1 jump p tb nb lv i g/\g.rd 17=.pointer (some ⟨X4.length,0,none⟩)/\g.rd 18=.bool bg/\g.rd 20=.bool false/\g.rd 21=.int .i64 (if fa=1 then R2 else M1)) ?_ ?_
 ·cases h1:(fa==1) with
  | false =>
   have h1':(fa=1)=False:=eq_false (by simpa using h1);simp only[push_cast,NR,g2,g3,g9,g11,g12,g13,g14,g17,g18,g20,g21,n7,f7,h1,h1',simprocAttr]
  | true =>
   have h1':(fa=1)=True:=eq_true (by simpa using h1);simp only[push_cast,NR,g2,g3,g9,g11,g12,g13,g14,g17,g18,g20,g21,n7,f7,h1,h1',simprocAttr]
 clear g2 g3 g9 g11 g12 g13 g14 g17 g18 g20 g21 g;rintro g Y ⟨rfl,⟨g2,g3,g9,g11,g12,g13,g14⟩,g17,g18,g20,g21⟩;generalize hck:(if fa=1 then R2 else M1)=ck at *;have ck1:-1<=ck/\ck<=40000000000000000:=by rw[<- hck]; split<;>omega
 have wl:=w64 (x:=ck-lv);have done:∀g,NR (some ⟨b,o,none⟩) sn 1 jump p tb nb lv i g->∃(t:TM) (R M:Int),NV E H0 F tb nb Z lv rb t R M (X6++[.cells true [.int .u8 0,.int .i64 0]])/\t.ws=[]/\(0<=R/\R<=K)/\(0<=M/\M<=1000+4294967295000*((i+1:Nat):Int))/\NR (some ⟨b,o,none⟩) sn 1 jump p tb nb lv i g:=fun g hg=>⟨_,R2,M1,V7,rfl,bR2,bM,hg⟩;have f7':∀l,((X6++[Blk.cells true [.int .u8 0,.int .i64 0]])++l)[X4.length]?=some (.cells true [.int .u8 fa,.int .i64 fb]):=fun l=>get_old f7;cases bg with
 | false =>
  simp only[push_cast,g2,g3,g9,g11,g12,g13,g14,g17,g18,g20,g21,f7,wl,simprocAttr];exact done _ ⟨by simp[g2],by simp[g3],by simp[g9],by simp[g11],by simp[g12],by simp[g13],by simp[g14]⟩
 | true =>
  cases h7:(fa==7) with
  | true =>
   simp only[push_cast,g2,g3,g9,g11,g12,g13,g14,g17,g18,g20,g21,f7,wl,h7,simprocAttr];exact done _ ⟨by simp[g2],by simp[g3],by simp[g9],by simp[g11],by simp[g12],by simp[g13],by simp[g14]⟩
  | false =>
   have h7':fa≠7:=by simpa using h7
   have:=hfl rfl h7';have q1:(ck-lv<fb)=False:=eq_false (by omega);have q2:(fb>ck-lv)=False:=eq_false (by omega);simp only[push_cast,g2,g3,g9,g11,g12,g13,g14,g17,g18,g20,g21,f7,wl,h7,q1,q2,simprocAttr];exact done _ ⟨by simp[g2],by simp[g3],by simp[g9],by simp[g11],by simp[g12],by simp[g13],by simp[g14]⟩
end
section
open Tb
variable {E:Env}(C:Conds E){lim:Nat}{h H0:Hp}{F:Nat->Prop}
include C
theorem c6 {c:CD}(H:c.In h){stamp:Int}(hst:i64r stamp){sa:Option Addr}{sn se:Nat}{sv:Nat->Int}(S:SlK 1 h sa sn se fun j=>[.int .u32 (sv j)])(sb:∀j,j<sn->0<=sv j/\sv j<4294967296)(jump:Int) :
  evI E lim (.func 6) [.agg c.cs.toArray,.int .i64 stamp,.slice sa sn se,.int .i64 jump] h=some (.bool true,h):=by
 have hE:=C.hE;refine PostV.eq ?_;have H1:=H.grow [.cells true c.cs];obtain⟨v,h1,e15,Z,ok,rfl,A1,zi,zn⟩:=(c15 C (lim:=h.length) H1 (by simp)).out;have Hc:=H1.agr A1;have l1:h.length+1<=h1.length:=by have:=A1.le; simpa using this
 obtain⟨r,e23,hr⟩:=c23 C (lim:=h.length) Hc none 0 0;obtain⟨p,hp⟩:=zv_ptr Z;rw[hp] at e15;have b1:∀l,(h1++l)[h.length]?=some (.cells true c.cs):=fun l=>get_old (A1 _ _ get_app0);have b1':h1[h.length]?=some (.cells true c.cs):=A1 _ _ get_app0;have agr1:Agr h h1:=(Agr.app _ _).trans A1
 have fin:∀X:Hp,Agr h X->X.take h.length=h:=fun X a=>take_ext hE rfl a.le fun i hi=>by
  rw[List.getElem?_eq_getElem hi];exact a _ _ (List.getElem?_eq_getElem hi)
 refine post_fn hE T6 (Nat.le_of_ble_eq_true rfl) ?_;show Post (evK E h.length ac6 _ _) _;unfold ac6;refine post_mid hE.mono (fun g W=>h++[.cells true c.cs]=W/\g.rd 1=.int .i64 stamp/\g.rd 2=.slice sa sn se/\g.rd 3=.int .i64 jump/\g.rd 4=.pointer (some ⟨h.length,0,none⟩)) (by simp only[push_cast,CD.cs,simprocAttr]) ?_;rintro g W ⟨rfl,g1,g2,g3,g4⟩;have b0:(h++[Blk.cells true c.cs])[h.length]?=some (.cells true c.cs):=get_app0;refine post_mid hE.mono (fun g W=>h1=W/\g.rd 1=.int .i64 stamp/\g.rd 2=.slice sa sn se/\g.rd 3=.int .i64 jump/\g.rd 4=.pointer (some ⟨h.length,0,none⟩)/\g.rd 9=.pointer p/\g.rd 10=.bool ok) ?_ ?_
 ·generalize hX0:h++[Blk.cells true c.cs]=X0 at b0 e15 ⊢;simp only[CD.cs] at b0 e15;simp only[push_cast,g1,g2,g3,g4,b0,e15,simprocAttr]
 clear g1 g2 g3 g4 g;rintro g W ⟨rfl,g1,g2,g3,g4,g9,g10⟩;refine post_mid hE.mono (fun g W=>(h1=W/\g.rd 1=.int .i64 stamp/\g.rd 2=.slice sa sn se/\g.rd 3=.int .i64 jump/\g.rd 4=.pointer (some ⟨h.length,0,none⟩)/\g.rd 9=.pointer p)/\r=true/\sn<=30/\-1125899906842624<=jump/\jump<=1125899906842624) ?_ ?_
 ·refine post_mid hE.mono (fun g W=>(h1=W/\g.rd 1=.int .i64 stamp/\g.rd 2=.slice sa sn se/\g.rd 3=.int .i64 jump/\g.rd 4=.pointer (some ⟨h.length,0,none⟩)/\g.rd 9=.pointer p)/\∃bb,g.rd 46=.bool bb/\(bb=false->r=true/\sn<=30/\-1125899906842624<=jump/\jump<=1125899906842624)) ?_ ?_
  ·simp only[CD.cs] at b1' e23;cases ok with
   | false =>
    simp only[push_cast,g1,g2,g3,g4,g9,g10,b1',simprocAttr];exact⟨_,rfl,fun h=>by cases h⟩
   | true =>
    cases r with
    | false =>
     simp only[push_cast,g1,g2,g3,g4,g9,g10,b1',e23,simprocAttr];exact⟨_,rfl,fun h=>by cases h⟩
    | true =>
     by_cases q1:(sn:Int)>30
     ·simp only[push_cast,g1,g2,g3,g4,g9,g10,b1',e23,q1,simprocAttr];exact⟨_,rfl,fun h=>by cases h⟩
     ·by_cases q2:jump < -1125899906842624
      ·simp only[push_cast,g1,g2,g3,g4,g9,g10,b1',e23,q1,q2,simprocAttr];exact⟨_,rfl,fun h=>by cases h⟩
      ·by_cases q3:jump>1125899906842624
       ·simp only[push_cast,g1,g2,g3,g4,g9,g10,b1',e23,q1,q2,q3,simprocAttr];exact⟨_,rfl,fun h=>by cases h⟩
       ·simp only[push_cast,g1,g2,g3,g4,g9,g10,b1',e23,q1,q2,q3,simprocAttr];exact⟨_,rfl,fun _=>by omega⟩
  ·clear g1 g2 g3 g4 g9 g10 g;rintro g W ⟨⟨rfl,g1,g2,g3,g4,g9⟩,bb,g46,hbb⟩;cases bb with
   | true =>
    have e17:=fun l=>c17 C (lim:=l) (h:=h1);simp only[push_cast,g46,e17,simprocAttr];exact fin _ agr1
   | false =>
    have:=hbb rfl;simp only[push_cast,g46,g1,g2,g3,g4,g9,simprocAttr];exact this
 clear g1 g2 g3 g4 g9 g10 g;rintro g W ⟨⟨rfl,g1,g2,g3,g4,g9⟩,hr1,hsn,j1,j2⟩;obtain⟨n1,n2,-⟩:=hr hr1;have zl:∀b,zmem Z b->b<h1.length:=fun b hb=>zmem_lt (fun Y hY=>(zn Y hY).2) hb;obtain⟨v,h2,e18,t,tb,rfl,T,A2,tl,tk,ta,-,-,tw,tr,t0,tS⟩:=(c18 C (lim:=h.length) (h:=h1) Hc.row (by omega) c.keyOk c.nm (by omega) (acc:=c.acc) (rnd:=c.rnd) H.rnd.2 c.per c.oc c.oz c.un (by omega)).out;obtain⟨eL,l1',l2',-,-⟩:=late_is C c.keyOk c.nm (by omega) (r:=c.rnd) H.rnd.2;generalize hlv:lateV E c.key c.nm c.rnd=lv at *;have b2:h2[h.length]?=some (.cells true c.cs):=A2 _ _ b1';have agr2:Agr h h2:=agr1.trans A2;have zi2:zin Z h2:=by obtain⟨l,rfl⟩:=A2.out; exact zi.grow
 have zs2:zshut Z h2:=zshut.agr (W:=h1) (fun Y hY=>(zn Y hY).2) fun b hb=>by
  have:=zl b hb;rw[List.getElem?_eq_getElem this];exact A2 _ _ (List.getElem?_eq_getElem this)
 refine post_mid hE.mono (fun g W=>h2=W/\g.rd 1=.int .i64 stamp/\g.rd 2=.slice sa sn se/\g.rd 3=.int .i64 jump/\g.rd 4=.pointer (some ⟨h.length,0,none⟩)/\g.rd 9=.pointer p/\g.rd 11=.pointer (some ⟨tb,0,none⟩)) ?_ ?_
 ·simp only[CD.cs] at b1';simp only[CD.key] at e18;simp only[push_cast,g1,g2,g3,g4,g9,b1',e18,simprocAttr]
 clear g1 g2 g3 g4 g9 g;rintro g W ⟨rfl,g1,g2,g3,g4,g9,g11⟩;refine post_mid hE.mono (fun g W=>h2=W/\g.rd 1=.int .i64 stamp/\g.rd 2=.slice sa sn se/\g.rd 3=.int .i64 jump/\g.rd 9=.pointer p/\g.rd 11=.pointer (some ⟨tb,0,none⟩)/\g.rd 12=.int .i64 lv) ?_ ?_
 ·have eL':=eL h.length h2;simp only[CD.key] at eL';simp only[CD.cs] at b2;simp only[push_cast,g1,g2,g3,g4,g9,g11,b2,eL',simprocAttr]
 clear g1 g2 g3 g4 g9 g11 g;rintro g W ⟨rfl,g1,g2,g3,g9,g11,g12⟩;refine post_mid hE.mono (fun g W=>h2++[.cells true [.int .i64 1125899906842624,.int .i64 1000]]=W/\g.rd 1=.int .i64 stamp/\g.rd 2=.slice sa sn se/\g.rd 3=.int .i64 jump/\g.rd 9=.pointer p/\g.rd 11=.pointer (some ⟨tb,0,none⟩)/\g.rd 12=.int .i64 lv/\g.rd 13=.pointer (some ⟨h2.length,0,none⟩)) (by simp only[push_cast,g1,g2,g3,g9,g11,g12,simprocAttr]) ?_;clear g1 g2 g3 g9 g11 g12 g;rintro g W ⟨rfl,g1,g2,g3,g9,g11,g12,g13⟩;obtain⟨v,h3,e20,rfl,T3,fr,l3⟩:=(c20 C (lim:=h.length) (T.grow [.cells true [.int .i64 1125899906842624,.int .i64 1000]]) ta (by omega) 1125899906842624 1000 1125899906842624 1000 stamp Z).out;have V:=start_nv C (h1:=h1) (h2:=h2) (h3:=h3) zi2 zs2 zl T tl tk tr H.span tS ⟨by omega,by omega⟩ H.acc (R:=1125899906842624) (M:=1000) (by unfold i64r; omega) (by unfold i64r; omega) hst T3 (fun j j1 j2 j3=>fr j (by simpa using j1) j2 j3) (by simpa using l3);rw[hp] at e20;refine post_mid hE.mono (fun g W=>h3=W/\g.rd 2=.slice sa sn se/\g.rd 3=.int .i64 jump/\g.rd 9=.pointer p/\g.rd 11=.pointer (some ⟨tb,0,none⟩)/\g.rd 12=.int .i64 lv/\g.rd 13=.pointer (some ⟨h2.length,0,none⟩)) ?_ ?_
 ·have n0:(h2++[Blk.cells true [.int .i64 1125899906842624,.int .i64 1000]])[h2.length]?=some (.cells true [.int .i64 1125899906842624,.int .i64 1000]):=get_app0;generalize hX0:h2++[Blk.cells true [.int .i64 1125899906842624,.int .i64 1000]]=X0 at n0 e20 ⊢;simp only[push_cast,g1,g2,g3,g9,g11,g12,g13,n0,e20,simprocAttr]
 clear g1 g2 g3 g9 g11 g12 g13 g;rintro g W ⟨rfl,g2,g3,g9,g11,g12,g13⟩
 have inF:∀j,j<h1.length->Fz h2 tb t.rb j:=fun j hj=>by
  have:=A2.le;refine⟨by omega,by omega,fun e=>?_⟩;have:=(tS j e).1;omega
 refine post_mid hE.mono (fun g W=>Agr h W) ?_ ?_
 ·simp only[push_cast,g2,g3,g9,g11,g12,g13,simprocAttr];refine loop6 C hp (Fz.nf T) (fun j hj=>hj.1) (by omega) l1' (by omega) (S.agr agr2) sb (fun h0 A hA=>?_) hsn j1 j2 V rfl ⟨by omega,by omega⟩ ⟨by omega,by omega⟩ ⟨by simp[g2],by simp[g3],by simp[g9],by simp[g11],by simp[g12],by simp[g13],by simp⟩ ?_
  ·obtain⟨b,o,own,cs,rfl,-,e,-⟩:=S h0;cases hA;have:=lt_of_get e;exact inF b (by omega)
  ·intro f' X' cX;simp only[push_cast,simprocAttr];intro j k hj;have lj:=lt_of_get hj;exact(cX.R j (inF j (by omega))).trans (agr2 _ _ hj)
 clear g2 g3 g9 g11 g12 g13 g;rintro g W aW;have e17:=fun l=>c17 C (lim:=l) (h:=W);simp only[push_cast,e17,simprocAttr];exact fin _ aW
end
section
open Tb
def tx20:ByteArray:=⟨#[42,58,42,58,48,47,50,48]⟩
def txno:ByteArray:=⟨#[110,111,110,115,101,110,115,101]⟩
def two8 (k:Nat):List TG:=[⟨k,k*10,tx20⟩,⟨k,4611686018427387904,txno⟩]
def all8:Nat->List TG
 | 0=>[]
 | n+1=>all8 n++two8 n
theorem all8_len:∀n,(all8 n).length=n*2
 | 0=>rfl
 | n+1=>by rw[all8,List.length_append,all8_len n]; show n*2+2=_; omega
theorem all8_span:∀n,n<=10->∀g∈all8 n,i64r g.span
 | 0,_,g,hg=>by cases hg
 | n+1,hn,g,hg=>by
  rw[all8] at hg;rcases List.mem_append.1 hg with hg | hg
  ·exact all8_span n (by omega) g hg
  ·simp only[two8,List.mem_cons,List.not_mem_nil,or_false] at hg;rcases hg with rfl | rfl
   ·show i64r ((n:Int)*10);unfold i64r;omega
   ·show i64r 4611686018427387904;unfold i64r;omega
theorem two8_cs (k:Nat):(two8 k).flatMap TG.cs=[.int .u8 k,.int .i64 ((k:Int)*10),.string tx20,.int .u8 k,.int .i64 4611686018427387904,.string txno]:=rfl
theorem tgcs_len (g:TG):g.cs.length=3:=rfl
def ld8:List LD:=[⟨4,1774745990000000,0,0,false,false⟩,⟨2,1774745990000000,3,0,true,false⟩,⟨0,1774745990000000,5,-1,false,false⟩,⟨0,1774745990000000,5,0,false,false⟩,⟨4,1774745990000001,6,0,false,false⟩,⟨4,1774745990000040,45,0,false,false⟩,⟨5,1774745990000041,46,0,false,false⟩,⟨2,1774745990000050,55,0,false,false⟩,⟨2,1774745990000060,65,0,true,false⟩,⟨4,1774746010000000,20000000,0,false,false⟩,⟨3,1774744990000000,20000001,0,true,true⟩,⟨4,1774744990000000,20000001,0,false,false⟩,⟨3,1774745990000000,20000002,0,true,false⟩,⟨3,1774745990000001,20000003,0,false,true⟩,⟨4,1774745990000002,20000004,0,false,false⟩,⟨1,0,0,0,false,false⟩,⟨4,1774745990000009,20000009,0,false,false⟩,⟨0,1774745990000010,20000010,1774742390000000,false,false⟩,⟨4,1774745990000010,20000010,0,false,false⟩]
theorem ld8_ok:∀x∈ld8,x.Ok:=by
 intro x hx;have h:ld8.all (fun x=>decide (-9223372036854775808<=x.real/\x.real<=9223372036854775807/\-9223372036854775808<=x.mono/\x.mono<=9223372036854775807/\-9223372036854775808<=x.stamp/\x.stamp<=9223372036854775807))=true:=by decide
 have:=of_decide_eq_true (List.all_eq_true.1 h x hx);exact⟨⟨this.1,this.2.1⟩,⟨this.2.2.1,this.2.2.2.1⟩,⟨this.2.2.2.2.1,this.2.2.2.2.2⟩⟩
def cd8 (ta:Option Addr)(te:Nat)(gs:List TG)(acc rnd:Int)(oc oz:Bool)(nm:ByteArray):CD:=⟨ta,te,gs,acc,rnd,false,oc,oz,⟨#[]⟩,nm,fun _=>0,⟨none,0,0,fun _=>0,fun _=>false,fun _=>⟨#[]⟩,none,0,0,fun _=>0,none,0,0,fun _=>0,⟨#[]⟩⟩⟩
theorem cd8_in {ta:Option Addr}{te:Nat}{gs:List TG}{acc rnd:Int}{oc oz:Bool}{nm:ByteArray}{h:Hp}(H:SlW 3 h ta gs.length te fun j=>(gs.getD j default).cs)(hn:gs.length<=1000)(ha:i64r acc)(hr:i64r rnd)(hs:∀g∈gs,i64r g.span):(cd8 ta te gs acc rnd oc oz nm).In h :=
 ⟨H,rfl,by show gs.length<_; omega,ha,hr,hs⟩
theorem u8w {n:Int}(h1:0<=n)(h2:n<256):IntKind.u8.wrap n=n:=by
 show n%256=n;omega
theorem part_sl {X:Hp}{b:Nat}{l:List TG}(hb:X[b]?=some (.cells true (l.flatMap TG.cs))){i m:Nat}(hm:i+m<=l.length):SlW 3 X (some ⟨b,i*3,none⟩) ((l.drop i).take m).length 3 fun j=>(((l.drop i).take m).getD j default).cs:=by
 have hl:((l.drop i).take m).length=m:=by rw[List.length_take,List.length_drop]; omega
 refine .inr ⟨b,i*3,true,_,rfl,rfl,hb,by rw[chunk_len tgcs_len,hl]; omega,fun j hj=>?_⟩;rw[hl] at hj;rw[show i*3+j*3=(i+j)*3 by omega];refine chunk_get tgcs_len l (i+j) _ ?_;have:((l.drop i).take m)[j]?=l[i+j]?:=by rw[List.getElem?_take_of_lt hj,List.getElem?_drop]
 rw[List.getD_eq_getElem?_getD,this,List.getElem?_eq_getElem (by omega)];rfl
variable {E:Env}(C:Conds E){lim:Nat}{h H0:Hp}{F:Nat->Prop}
include C
theorem c34_nil:evI E lim (.func 34) [.pointer none] h=some (.pointer none,h):=by
 have hE:=C.hE;rw[hE.fn T34]; simp only[push_cast,ac34,simprocAttr]
theorem loop8_2 {f:Fr}{P:AX->Fr->Hp->Prop}{lim:Nat}(hlim:lim<=h.length)(f1:f.rd 1=.slice none 0 0)(f2:f.rd 2=.int .u8 0)(hP:∀f' X b,(∀j,j<h.length->X[j]?=h[j]?)->h.length<=b->X[b]?=some (.cells true ((all8 10).flatMap TG.cs))->f'.rd 1=.slice (some ⟨b,0,none⟩) 20 3->P (.exit 0) f' X):Post (evK E lim (.loop lp8_2) f h) P:=by
 have hE:=C.hE;refine loop_post hE.mono (fun q g X=>∃(i:Nat) (B:Option Nat),i<=10/\RowAt X B ((all8 i).flatMap TG.cs)/\(B=none->i=0)/\(∀b,B=some b->h.length<=b)/\(∀j,j<h.length->X[j]?=h[j]?)/\h.length<=X.length/\g.rd 1=rv B (i*2) 3/\g.rd 2=.int .u8 i/\10-i=q) ?_ 10 _ _ ⟨0,none,by omega,rfl,fun _=>rfl,(fun b h=>by cases h),fun _ _=>rfl,Nat.le_refl _,by rw[f1]; rfl,by rw[f2]; rfl,rfl⟩;clear f1 f2 f;rintro q g X ⟨i,B,hi,R,B0,Bl,xo,xl,g1,g2,hq⟩
 by_cases hlt:(i:Int)<10
 case neg =>
  simp only[push_cast,lp8_2,g1,g2,hlt,simprocAttr];obtain rfl:i=10:=by omega
  cases B with
  | none=>have:=B0 rfl; omega
  | some b=>exact hP _ _ b xo (Bl b rfl) R (by simp only[push_cast,g1,simprocAttr]; rfl)
 have hi':i<10:=by omega
 have a1:IntKind.i64.wrap (i:Int)=i:=wrap64 (by omega) (by omega);have a2:=w64 (x:=(i:Int)*10);have a8:IntKind.u8.wrap ((i:Int)+1)=((i+1:Nat):Int):=by rw[u8w (by omega) (by omega)]; rfl
 have e1:(all8 (i+1)).flatMap TG.cs=(all8 i).flatMap TG.cs++[.int .u8 i,.int .i64 ((i:Int)*10),.string tx20,.int .u8 i,.int .i64 4611686018427387904,.string txno]:=by rw[all8,List.flatMap_append,two8_cs]
 have x6:∀q:Prop,(lim<=X.length\/q)=True:=fun q=>by first | omega | (simp; omega)
 cases B with
 | none =>
  obtain rfl:=B0 rfl;simp only[rv] at g1;have a9:IntKind.u8.wrap 1=1:=u8w (by omega) (by omega);simp only[push_cast,lp8_2,g1,g2,hlt,a1,a2,a8,a9,srcOf,x6,simprocAttr];refine⟨9,by omega,1,some (X.length+1),by omega,?_,(fun h=>by cases h),fun b hb=>by injection hb with hb; omega,fun j hj=>by rw[get_lt (by omega)]; exact xo j hj,by first | omega | (simp; omega),by first | rfl | (simp only[push_cast,simprocAttr]; done) | (simp only[push_cast,simprocAttr]; rfl),by first | rfl | (simp only[push_cast,simprocAttr]; done) | (simp only[push_cast,simprocAttr]; rfl),rfl⟩;rw[e1];show(X++_)[X.length+1]?=_;rw[get_app];rfl
 | some b =>
  have wr:X[b]?=some (.cells true ((all8 i).flatMap TG.cs)):=R;have lw:=lt_of_get wr;have hb:=Bl b rfl;simp only[rv_some] at g1;have k1:∀l,(X++l)[b]?=_:=fun l=>get_old wr;have k2:∀l y,(X++l).set b y=X.set b y++l:=fun l y=>set_old lw;have lL:((all8 i).flatMap TG.cs).length=i*2*3:=by rw[chunk_len tgcs_len,all8_len]
  have k9:(i*2*3=((all8 i).flatMap TG.cs).length)=True:=eq_true lL.symm;have hn1:((i*2+2)*32<=140737488355328)=True:=eq_true (by omega);simp only[push_cast,lp8_2,g1,g2,hlt,a1,a2,a8,srcOf,x6,k1,k2,k9,hn1,simprocAttr];refine⟨10-(i+1),by omega,i+1,some (X.length+1),by omega,?_,(fun h=>by cases h),fun b' hb'=>by injection hb' with hb'; omega,fun j hj=>by rw[get_lt (by first | omega | (simp; omega)),set_ne (by omega)]; exact xo j hj,by first | omega | (simp; omega),by rw[rv_some,show(i+1)*2=i*2+2 by omega],by first | rfl | (rw[Int.natCast_add]; rfl),rfl⟩;rw[e1];show(X.set b _++_)[X.length+1]?=_;rw[get_appC (n:=X.length) (k:=1) (by simp)];rfl
end
section
open Tb
def st6:List Int:=[1,5,1000,20000,7,60000]
def st7:List Int:=[0,1,9999,10000,30000,86400000,5]
def u32s (l:List Int):List Value:=l.map fun n=>.int .u32 n
theorem u32s_sl {X:Hp}{b:Nat}{l:List Int}(hb:X[b]?=some (.cells true (u32s l))):SlK 1 X (some ⟨b,0,none⟩) l.length 1 fun j=>[.int .u32 (l.getD j 0)]:=by
 intro h0;refine⟨b,0,true,_,rfl,rfl,hb,by simp[u32s],fun j hj=>?_⟩
 have e:u32s l=l.flatMap fun n=>[.int .u32 n]:=by
  unfold u32s;clear hb hj h0
  induction l with
  | nil=>rfl
  | cons x l ih=>rw[List.map_cons,List.flatMap_cons,ih]; rfl
 rw[Nat.zero_add,e];exact chunk_get (f:=fun n=>[Value.int .u32 n]) (fun _=>rfl) l j _ (by rw[List.getD_eq_getElem?_getD,List.getElem?_eq_getElem hj]; rfl)
set_option maxRecDepth 100000 in
theorem fill8:fillL [.int .u8 0,.int .i64 0,.int .i64 0,.int .i64 0,.bool false,.bool false,.int .u8 0,.int .i64 0,.int .i64 0,.int .i64 0,.bool false,.bool false,.int .u8 0,.int .i64 0,.int .i64 0,.int .i64 0,.bool false,.bool false,.int .u8 0,.int .i64 0,.int .i64 0,.int .i64 0,.bool false,.bool false,.int .u8 0,.int .i64 0,.int .i64 0,.int .i64 0,.bool false,.bool false,.int .u8 0,.int .i64 0,.int .i64 0,.int .i64 0,.bool false,.bool false,.int .u8 0,.int .i64 0,.int .i64 0,.int .i64 0,.bool false,.bool false,.int .u8 0,.int .i64 0,.int .i64 0,.int .i64 0,.bool false,.bool false,.int .u8 0,.int .i64 0,.int .i64 0,.int .i64 0,.bool false,.bool false,.int .u8 0,.int .i64 0,.int .i64 0,.int .i64 0,.bool false,.bool false,.int .u8 0,.int .i64 0,.int .i64 0,.int .i64 0,.bool false,.bool false,.int .u8 0,.int .i64 0,.int .i64 0,.int .i64 0,.bool false,.bool false,.int .u8 0,.int .i64 0,.int .i64 0,.int .i64 0,.bool false,.bool false,.int .u8 0,.int .i64 0,.int .i64 0,.int .i64 0,.bool false,.bool false,.int .u8 0,.int .i64 0,.int .i64 0,.int .i64 0,.bool false,.bool false,.int .u8 0,.int .i64 0,.int .i64 0,.int .i64 0,.bool false,.bool false,.int .u8 0,.int .i64 0,.int .i64 0,.int .i64 0,.bool false,.bool false,.int .u8 0,.int .i64 0,.int .i64 0,.int .i64 0,.bool false,.bool false,.int .u8 0,.int .i64 0,.int .i64 0,.int .i64 0,.bool false,.bool false] [(0,6,.agg (LD.cs ⟨4,1774745990000000,0,0,false,false⟩).toArray),(6,6,.agg (LD.cs ⟨2,1774745990000000,3,0,true,false⟩).toArray),(12,6,.agg (LD.cs ⟨0,1774745990000000,5,(-1),false,false⟩).toArray),(18,6,.agg (LD.cs ⟨0,1774745990000000,5,0,false,false⟩).toArray),(24,6,.agg (LD.cs ⟨4,1774745990000001,6,0,false,false⟩).toArray),(30,6,.agg (LD.cs ⟨4,1774745990000040,45,0,false,false⟩).toArray),(36,6,.agg (LD.cs ⟨5,1774745990000041,46,0,false,false⟩).toArray),(42,6,.agg (LD.cs ⟨2,1774745990000050,55,0,false,false⟩).toArray),(48,6,.agg (LD.cs ⟨2,1774745990000060,65,0,true,false⟩).toArray),(54,6,.agg (LD.cs ⟨4,1774746010000000,20000000,0,false,false⟩).toArray),(60,6,.agg (LD.cs ⟨3,1774744990000000,20000001,0,true,true⟩).toArray),(66,6,.agg (LD.cs ⟨4,1774744990000000,20000001,0,false,false⟩).toArray),(72,6,.agg (LD.cs ⟨3,1774745990000000,20000002,0,true,false⟩).toArray),(78,6,.agg (LD.cs ⟨3,1774745990000001,20000003,0,false,true⟩).toArray),(84,6,.agg (LD.cs ⟨4,1774745990000002,20000004,0,false,false⟩).toArray),(90,6,.agg (LD.cs ⟨1,0,0,0,false,false⟩).toArray),(96,6,.agg (LD.cs ⟨4,1774745990000009,20000009,0,false,false⟩).toArray),(102,6,.agg (LD.cs ⟨0,1774745990000010,20000010,1774742390000000,false,false⟩).toArray),(108,6,.agg (LD.cs ⟨4,1774745990000010,20000010,0,false,false⟩).toArray)]=some (ld8.flatMap LD.cs):=rfl
theorem runL_app {call:CallT}{lim:Nat}{b:List AI}:∀(a:List AI) (f:Fr) (h:Hp),runL call lim (a++b) f h=nextL call lim b (runL call lim a f h)
 | [],f,h=>rfl
 | i::a,f,h=>by
  rw[List.cons_append,runL_cons,runL_cons];cases i.run call lim f h with
  | none=>rfl
  | some p=>exact runL_app a p.1 p.2
theorem post_cut {E:Env}(hM:EnvMono E){lim:Nat}{l:List AI}{b:AC}{f:Fr}{h:Hp}{P:AX->Fr->Hp->Prop}(n:Nat)(H:Post (evK E lim (.seq (.reg (l.take n)) (.seq (.reg (l.drop n)) b)) f h) P):Post (evK E lim (.seq (.reg l) b) f h) P:=by
 have e:evK E lim (.seq (.reg l) b) f h=evK E lim (.seq (.reg (l.take n)) (.seq (.reg (l.drop n)) b)) f h:=by
  rw[evK_seq' hM,evK_seq' hM,evK_reg' hM,evK_reg' hM]
  conv=>lhs; rw[<- List.take_append_drop n l,runL_app]
  cases runL (evI E lim) lim (l.take n) f h with
  | none=>rfl
  | some p =>
   obtain⟨f1,h1⟩:=p;rw[nextL_some,afterL_some,seqK_norm,evK_seq' hM,evK_reg' hM]
 rw[e];exact H
structure K8 (h:Hp)(b lb:Nat)(X:Hp):Prop where
 o:∀j,j<h.length->X[j]?=h[j]?
 l:h.length<=X.length
 b:X[b]?=some (.cells true ((all8 10).flatMap TG.cs))
 lb:X[lb]?=some (.cells true (ld8.flatMap LD.cs))
theorem K8.app {h:Hp}{b lb:Nat}{X:Hp}(K:K8 h b lb X)(l:Hp):K8 h b lb (X++l):=⟨fun j hj=>by rw[get_lt (by have:=K.l; omega)]; exact K.o j hj,by have:=K.l; simp; omega,get_old K.b,get_old K.lb⟩
def N8 (N NL b lb i:Nat)(g:Fr):Prop:=g.rd 1=.slice (some ⟨b,0,none⟩) N 3/\g.rd 4=.slice (some ⟨lb,0,none⟩) NL 6/\g.rd 5=.int .i64 i
variable {E:Env}(C:Conds E){lim:Nat}{h H0:Hp}{F:Nat->Prop}
include C
theorem loop8_0 {N NL b lb i:Nat}(hN:N=20)(hNL:NL=19)(hi:i<N){X0:Hp}(K0:K8 h b lb X0)(hlim:lim<=h.length){f:Fr}(f0:N8 N NL b lb i f)(f6:f.rd 6=.int .i64 0){P:AX->Fr->Hp->Prop}(hP:∀f' X,K8 h b lb X->N8 N NL b lb i f'->P (.exit 4) f' X):Post (evK E lim (.loop lp8_0) f X0) P:=by
 have hE:=C.hE;refine loop_post hE.mono (fun q g X=>∃k:Nat,k<=8/\K8 h b lb X/\N8 N NL b lb i g/\g.rd 6=.int .i64 k/\8-k=q) ?_ 8 _ _ ⟨0,by omega,K0,f0,by rw[f6]; rfl,rfl⟩;clear f0 f6 f K0 X0;rintro q g X ⟨k,hk,K,⟨g1,g4,g5⟩,g6,hq⟩
 by_cases hlt:(k:Int)<8
 case neg =>
  simp only[push_cast,lp8_0,g6,hlt,simprocAttr];exact hP _ _ K ⟨by simp[g1],by simp[g4],by simp[g5]⟩
 have hk':k<8:=by omega
 unfold lp8_0;refine post_mid hE.mono (fun g W=>X=W/\N8 N NL b lb i g/\g.rd 6=.int .i64 k) (by simp only[push_cast,N8,g1,g4,g5,g6,hlt,simprocAttr]) ?_;clear g1 g4 g5 g6 g;rintro g W ⟨rfl,⟨g1,g4,g5⟩,g6⟩;refine post_mid hE.mono (fun g W=>K8 h b lb W/\N8 N NL b lb i g/\g.rd 6=.int .i64 k) ?_ ?_
 case refine_2 =>
  clear g1 g4 g5 g6 g K X;rintro g X ⟨K,⟨g1,g4,g5⟩,g6⟩;have a8:=wn1 (i:=k);simp only[push_cast,g6,a8,simprocAttr];exact⟨8-(k+1),by omega,k+1,by omega,K,⟨by simp[g1],by simp[g4],by simp[g5]⟩,by simp,rfl⟩
 refine post_blk hE.mono ?_;obtain⟨k3,hk3⟩:∃k3,k3=k%3:=⟨_,rfl⟩;obtain⟨s,hs⟩:∃s,s=i+1+k3:=⟨_,rfl⟩;obtain⟨hi2,hh⟩:∃hi2,hi2=min s N:=⟨_,rfl⟩;obtain⟨m,hm⟩:∃m,hi2-i=m:=⟨_,rfl⟩;obtain⟨acc,hacc⟩:∃acc,acc=(k:Int)*5:=⟨_,rfl⟩;obtain⟨kq,hkq⟩:∃kq,kq=(k:Int)/4:=⟨_,rfl⟩;obtain⟨rnd,hrnd⟩:∃rnd,rnd=kq*30:=⟨_,rfl⟩;have w1:=w64 (x:=(i:Int)+1);have w2:(k:Int).tmod 3=(k3:Int):=by rw[Int.tmod_eq_emod_of_nonneg (by omega)]; omega
 have w3:IntKind.i64.wrap ((i:Int)+1+(k3:Int))=(s:Int):=by rw[wrap64 (by omega) (by omega)]; omega
 have em:(if(s:Int)<(N:Int) then(s:Int) else(N:Int))=(hi2:Int):=by split<;>omega
 have em2:min (N:Int) (s:Int)=(hi2:Int):=by omega
 have w4:IntKind.i64.wrap ((k:Int)*5)=acc:=by rw[wrap64 (by omega) (by omega)]; omega
 have w5:IntKind.i64.wrap ((k:Int).tdiv 4)=kq:=by rw[Int.tdiv_eq_ediv_of_nonneg (by omega),wrap64 (by omega) (by omega)]; omega
 have w6:IntKind.i64.wrap (kq*30)=rnd:=by rw[wrap64 (by omega) (by omega)]; omega
 have q1:(0<=(hi2:Int))=True:=eq_true (by omega);have q2:((hi2:Int)<=(N:Int))=True:=eq_true (by omega);have q3:(0<=(i:Int))=True:=eq_true (by omega);have q4:((i:Int)<=(hi2:Int))=True:=eq_true (by omega);obtain⟨nm,hnm⟩:∃nm:ByteArray,nm=⟨#[97,46,116,105,109,101,114]⟩:=⟨_,rfl⟩;have hgl:(((all8 10).drop i).take m).length=m:=by rw[List.length_take,List.length_drop,all8_len]; omega
 refine post_mid hE.mono (fun g W=>∃oc oz,X++[.cells true (cd8 (some ⟨b,i*3,none⟩) 3 (((all8 10).drop i).take m) acc rnd oc oz nm).cs]=W/\N8 N NL b lb i g/\g.rd 6=.int .i64 k/\g.rd 7=.pointer (some ⟨X.length,0,none⟩)) ?_ ?_
 ·simp only[CD.cs,cd8,hgl];rw[hnm];have x6:∀q:Prop,(lim<=X.length\/q)=True:=fun q=>by have:=K.l; simp; omega
  simp only[push_cast,N8,g1,g4,g5,g6,w1,w2,w3,em,em2,w4,w5,w6,q1,q2,q3,q4,hm,bound,x6,simprocAttr];exact⟨_,_,rfl⟩
 clear g1 g4 g5 g6 g;rintro g W ⟨oc,oz,hW,⟨g1,g4,g5⟩,g6,g7⟩;have KW:K8 h b lb W:=by rw[<- hW]; exact K.app _
 have cW:W[X.length]?=some (.cells true (cd8 (some ⟨b,i*3,none⟩) 3 (((all8 10).drop i).take m) acc rnd oc oz nm).cs):=by rw[<- hW]; exact get_app0
 have IN:(cd8 (some ⟨b,i*3,none⟩) 3 (((all8 10).drop i).take m) acc rnd oc oz nm).In W:=cd8_in (part_sl KW.b (by rw[all8_len]; omega)) (by rw[hgl]; omega) (by unfold i64r; omega) (by unfold i64r; omega) fun g hg=>all8_span 10 (Nat.le_refl _) g (List.mem_of_mem_drop (List.mem_of_mem_take hg));clear hW;generalize cd8 (some ⟨b,i*3,none⟩) 3 (((all8 10).drop i).take m) acc rnd oc oz nm=c at *
 have e7:=c7 C (lim:=lim) IN (la:=some ⟨lb,0,none⟩) (ln:=19) (le:=6) (cv:=fun j=>ld8.getD j default) (fun _=>⟨lb,0,true,_,rfl,rfl,KW.lb,by rw[chunk_len (k:=6) (fun _=>rfl)]; decide,fun j hj=>by
  rw[Nat.zero_add];exact chunk_get (f:=LD.cs) (fun _=>rfl) ld8 j _ (by rw[List.getD_eq_getElem?_getD,List.getElem?_eq_getElem (show j<ld8.length from hj)]; rfl)⟩) (fun j hj=>by
  rw[List.getD_eq_getElem?_getD,List.getElem?_eq_getElem (show j<ld8.length from hj)];exact ld8_ok _ (List.getElem_mem _))
 rw[<- hNL] at e7;obtain⟨st,hst⟩:∃st,st=(k:Int)-1:=⟨_,rfl⟩;obtain⟨k4,hk4⟩:∃k4,k4=(k:Int)-4:=⟨_,rfl⟩;obtain⟨jp,hjp⟩:∃jp,jp=k4*100000000:=⟨_,rfl⟩;have w7:IntKind.i64.wrap ((k:Int)-1)=st:=by rw[wrap64 (by omega) (by omega)]; omega
 have w8:IntKind.i64.wrap ((k:Int)-4)=k4:=by rw[wrap64 (by omega) (by omega)]; omega
 have w9:IntKind.i64.wrap (k4*100000000)=jp:=by rw[wrap64 (by omega) (by omega)]; omega
 have e6:=c6 C (lim:=lim) (IN.grow [.cells true (u32s st6)]) (stamp:=st) (by unfold i64r; omega) (u32s_sl (X:=W++[.cells true (u32s st6)]) (b:=W.length) (l:=st6) get_app0) (fun j hj=>by
  have:j=0\/j=1\/j=2\/j=3\/j=4\/j=5:=by have:j<6:=hj; omega
  rcases this with rfl | rfl | rfl | rfl | rfl | rfl<;>exact⟨by decide,by decide⟩) jp
 simp only[u32s,st6,List.map_cons,List.map_nil,List.length_cons,List.length_nil,Nat.zero_add,Nat.reduceAdd] at e6;simp only[CD.cs] at e7 e6 cW;have cW':∀l,(W++l)[X.length]?=_:=fun l=>get_old cW;simp only[push_cast,g1,g4,g5,g6,g7,cW,cW',e7,e6,w7,w8,w9,simprocAttr];exact⟨KW.app _,⟨by simp[g1],by simp[g4],by simp[g5]⟩⟩
theorem loop8_1 {N NL b lb:Nat}(hN:N=20)(hNL:NL=19){X0:Hp}(K0:K8 h b lb X0)(hlim:lim<=h.length){f:Fr}(f0:N8 N NL b lb 0 f){P:AX->Fr->Hp->Prop}(hP:∀f' X,K8 h b lb X->P (.exit 2) f' X):Post (evK E lim (.loop lp8_1) f X0) P:=by
 have hE:=C.hE;refine loop_post hE.mono (fun q g X=>∃i:Nat,i<=N/\K8 h b lb X/\N8 N NL b lb i g/\N-i=q) ?_ N _ _ ⟨0,Nat.zero_le _,K0,f0,rfl⟩;clear f0 f K0 X0;rintro q g X ⟨i,hi,K,⟨g1,g4,g5⟩,hq⟩
 by_cases hlt:(i:Int)<N
 case neg =>
  simp only[push_cast,lp8_1,g1,g5,hlt,simprocAttr];exact hP _ _ K
 have hi':i<N:=by omega
 unfold lp8_1;refine post_mid hE.mono (fun g W=>X=W/\N8 N NL b lb i g) (by simp only[push_cast,N8,g1,g4,g5,hlt,simprocAttr]) ?_;clear g1 g4 g5 g;rintro g W ⟨rfl,⟨g1,g4,g5⟩⟩;refine post_mid hE.mono (fun g W=>K8 h b lb W/\N8 N NL b lb i g) ?_ ?_
 case refine_2 =>
  clear g1 g4 g5 g K X;rintro g X ⟨K,⟨g1,g4,g5⟩⟩;have a8:=wn1 (i:=i);simp only[push_cast,g5,a8,simprocAttr];exact⟨N-(i+1),by omega,i+1,by omega,K,⟨by simp[g1],by simp[g4],by simp⟩,rfl⟩
 refine post_blk hE.mono ?_;simp only[push_cast,g1,g4,g5,simprocAttr];refine loop8_0 C hN hNL hi' K hlim ⟨by simp[g1],by simp[g4],by simp[g5]⟩ (by simp) fun f' X' K' n'=>?_;simp only[push_cast,simprocAttr];exact⟨K',n'⟩
theorem c8:evI E lim (.func 8) [] h=some (.bool true,h):=by
 have hE:=C.hE;refine PostV.eq ?_;refine post_fn hE T8 (Nat.le_of_ble_eq_true rfl) ?_;show Post (evK E h.length ac8 _ _) _;unfold ac8;refine post_mid hE.mono (fun g W=>h=W) (by simp only[push_cast,simprocAttr]) ?_;rintro g W rfl;refine post_mid hE.mono (fun g W=>h=W/\g.rd 1=.slice none 0 0) (by simp only[push_cast,simprocAttr]) ?_;clear g;rintro g W ⟨rfl,g1⟩;refine post_mid hE.mono (fun g W=>∃b,(∀j,j<h.length->W[j]?=h[j]?)/\h.length<=b/\W[b]?=some (.cells true ((all8 10).flatMap TG.cs))/\g.rd 1=.slice (some ⟨b,0,none⟩) 20 3) ?_ ?_
 ·simp only[push_cast,g1,simprocAttr];refine loop8_2 C (Nat.le_refl _) (by simp[g1]) (by simp) fun f' X b xo hb xb f1=>?_;simp only[push_cast,simprocAttr];exact⟨b,xo,hb,xb,f1⟩
 clear g1 g;rintro g W ⟨b,xo,hb,xb,g1⟩;have lb:=lt_of_get xb;refine post_mid hE.mono (fun g X=>W=X/\g.rd 1=.slice (some ⟨b,0,none⟩) 20 3/\g.rd 3=.int .i64 1774745990000000) (by simp only[push_cast,g1,simprocAttr]) ?_;clear g1 g;rintro g X ⟨rfl,g1,g3⟩;have w0:IntKind.i64.wrap 1774745990000001=1774745990000001:=wrap64 (by omega) (by omega);have w1:IntKind.i64.wrap 1774745990000040=1774745990000040:=wrap64 (by omega) (by omega);have w2:IntKind.i64.wrap 1774745990000041=1774745990000041:=wrap64 (by omega) (by omega);have w3:IntKind.i64.wrap 1774745990000050=1774745990000050:=wrap64 (by omega) (by omega);have w4:IntKind.i64.wrap 1774745990000060=1774745990000060:=wrap64 (by omega) (by omega);have w5:IntKind.i64.wrap 1774746010000000=1774746010000000:=wrap64 (by omega) (by omega);have w6:IntKind.i64.wrap 1774744990000000=1774744990000000:=wrap64 (by omega) (by omega);have w7:IntKind.i64.wrap 1774745990000002=1774745990000002:=wrap64 (by omega) (by omega);have w8:IntKind.i64.wrap 1774745990000009=1774745990000009:=wrap64 (by omega) (by omega);have w9:IntKind.i64.wrap 1774745990000010=1774745990000010:=wrap64 (by omega) (by omega);have w10:IntKind.i64.wrap 1774742390000000=1774742390000000:=wrap64 (by omega) (by omega);refine post_cut hE.mono 12 ?_;refine post_mid hE.mono (fun g X=>W=X/\g.rd 1=.slice (some ⟨b,0,none⟩) 20 3/\g.rd 3=.int .i64 1774745990000000/\g.rd 27=.agg (LD.cs ⟨4,1774745990000000,0,0,false,false⟩).toArray/\g.rd 30=.agg (LD.cs ⟨2,1774745990000000,3,0,true,false⟩).toArray/\g.rd 33=.agg (LD.cs ⟨0,1774745990000000,5,(-1),false,false⟩).toArray/\g.rd 36=.agg (LD.cs ⟨0,1774745990000000,5,0,false,false⟩).toArray) ?_ ?_
 ·simp only[push_cast,LD.cs,g1,g3,w0,w1,w2,w3,w4,w5,w6,w7,w8,w9,w10,simprocAttr]
 clear g1 g3 g;rintro g X ⟨rfl,g1,g3,k27,k30,k33,k36⟩;refine post_cut hE.mono 16 ?_;refine post_mid hE.mono (fun g X=>W=X/\g.rd 1=.slice (some ⟨b,0,none⟩) 20 3/\g.rd 3=.int .i64 1774745990000000/\g.rd 27=.agg (LD.cs ⟨4,1774745990000000,0,0,false,false⟩).toArray/\g.rd 30=.agg (LD.cs ⟨2,1774745990000000,3,0,true,false⟩).toArray/\g.rd 33=.agg (LD.cs ⟨0,1774745990000000,5,(-1),false,false⟩).toArray/\g.rd 36=.agg (LD.cs ⟨0,1774745990000000,5,0,false,false⟩).toArray/\g.rd 40=.agg (LD.cs ⟨4,1774745990000001,6,0,false,false⟩).toArray/\g.rd 44=.agg (LD.cs ⟨4,1774745990000040,45,0,false,false⟩).toArray/\g.rd 48=.agg (LD.cs ⟨5,1774745990000041,46,0,false,false⟩).toArray/\g.rd 52=.agg (LD.cs ⟨2,1774745990000050,55,0,false,false⟩).toArray) ?_ ?_
 ·simp only[push_cast,LD.cs,g1,g3,k27,k30,k33,k36,w0,w1,w2,w3,w4,w5,w6,w7,w8,w9,w10,simprocAttr]
 clear g1 g3 k27 k30 k33 k36 g;rintro g X ⟨rfl,g1,g3,k27,k30,k33,k36,k40,k44,k48,k52⟩;refine post_cut hE.mono 16 ?_;refine post_mid hE.mono (fun g X=>W=X/\g.rd 1=.slice (some ⟨b,0,none⟩) 20 3/\g.rd 3=.int .i64 1774745990000000/\g.rd 27=.agg (LD.cs ⟨4,1774745990000000,0,0,false,false⟩).toArray/\g.rd 30=.agg (LD.cs ⟨2,1774745990000000,3,0,true,false⟩).toArray/\g.rd 33=.agg (LD.cs ⟨0,1774745990000000,5,(-1),false,false⟩).toArray/\g.rd 36=.agg (LD.cs ⟨0,1774745990000000,5,0,false,false⟩).toArray/\g.rd 40=.agg (LD.cs ⟨4,1774745990000001,6,0,false,false⟩).toArray/\g.rd 44=.agg (LD.cs ⟨4,1774745990000040,45,0,false,false⟩).toArray/\g.rd 48=.agg (LD.cs ⟨5,1774745990000041,46,0,false,false⟩).toArray/\g.rd 52=.agg (LD.cs ⟨2,1774745990000050,55,0,false,false⟩).toArray/\g.rd 56=.agg (LD.cs ⟨2,1774745990000060,65,0,true,false⟩).toArray/\g.rd 60=.agg (LD.cs ⟨4,1774746010000000,20000000,0,false,false⟩).toArray/\g.rd 64=.agg (LD.cs ⟨3,1774744990000000,20000001,0,true,true⟩).toArray/\g.rd 68=.agg (LD.cs ⟨4,1774744990000000,20000001,0,false,false⟩).toArray) ?_ ?_
 ·simp only[push_cast,LD.cs,g1,g3,k27,k30,k33,k36,k40,k44,k48,k52,w0,w1,w2,w3,w4,w5,w6,w7,w8,w9,w10,simprocAttr]
 clear g1 g3 k27 k30 k33 k36 k40 k44 k48 k52 g;rintro g X ⟨rfl,g1,g3,k27,k30,k33,k36,k40,k44,k48,k52,k56,k60,k64,k68⟩;refine post_cut hE.mono 12 ?_;refine post_mid hE.mono (fun g X=>W=X/\g.rd 1=.slice (some ⟨b,0,none⟩) 20 3/\g.rd 3=.int .i64 1774745990000000/\g.rd 27=.agg (LD.cs ⟨4,1774745990000000,0,0,false,false⟩).toArray/\g.rd 30=.agg (LD.cs ⟨2,1774745990000000,3,0,true,false⟩).toArray/\g.rd 33=.agg (LD.cs ⟨0,1774745990000000,5,(-1),false,false⟩).toArray/\g.rd 36=.agg (LD.cs ⟨0,1774745990000000,5,0,false,false⟩).toArray/\g.rd 40=.agg (LD.cs ⟨4,1774745990000001,6,0,false,false⟩).toArray/\g.rd 44=.agg (LD.cs ⟨4,1774745990000040,45,0,false,false⟩).toArray/\g.rd 48=.agg (LD.cs ⟨5,1774745990000041,46,0,false,false⟩).toArray/\g.rd 52=.agg (LD.cs ⟨2,1774745990000050,55,0,false,false⟩).toArray/\g.rd 56=.agg (LD.cs ⟨2,1774745990000060,65,0,true,false⟩).toArray/\g.rd 60=.agg (LD.cs ⟨4,1774746010000000,20000000,0,false,false⟩).toArray/\g.rd 64=.agg (LD.cs ⟨3,1774744990000000,20000001,0,true,true⟩).toArray/\g.rd 68=.agg (LD.cs ⟨4,1774744990000000,20000001,0,false,false⟩).toArray/\g.rd 71=.agg (LD.cs ⟨3,1774745990000000,20000002,0,true,false⟩).toArray/\g.rd 75=.agg (LD.cs ⟨3,1774745990000001,20000003,0,false,true⟩).toArray/\g.rd 79=.agg (LD.cs ⟨4,1774745990000002,20000004,0,false,false⟩).toArray/\g.rd 80=.agg (LD.cs ⟨1,0,0,0,false,false⟩).toArray) ?_ ?_
 ·simp only[push_cast,LD.cs,g1,g3,k27,k30,k33,k36,k40,k44,k48,k52,k56,k60,k64,k68,w0,w1,w2,w3,w4,w5,w6,w7,w8,w9,w10,simprocAttr]
 clear g1 g3 k27 k30 k33 k36 k40 k44 k48 k52 k56 k60 k64 k68 g;rintro g X ⟨rfl,g1,g3,k27,k30,k33,k36,k40,k44,k48,k52,k56,k60,k64,k68,k71,k75,k79,k80⟩;refine post_cut hE.mono 14 ?_;refine post_mid hE.mono (fun g X=>W=X/\g.rd 1=.slice (some ⟨b,0,none⟩) 20 3/\g.rd 3=.int .i64 1774745990000000/\g.rd 27=.agg (LD.cs ⟨4,1774745990000000,0,0,false,false⟩).toArray/\g.rd 30=.agg (LD.cs ⟨2,1774745990000000,3,0,true,false⟩).toArray/\g.rd 33=.agg (LD.cs ⟨0,1774745990000000,5,(-1),false,false⟩).toArray/\g.rd 36=.agg (LD.cs ⟨0,1774745990000000,5,0,false,false⟩).toArray/\g.rd 40=.agg (LD.cs ⟨4,1774745990000001,6,0,false,false⟩).toArray/\g.rd 44=.agg (LD.cs ⟨4,1774745990000040,45,0,false,false⟩).toArray/\g.rd 48=.agg (LD.cs ⟨5,1774745990000041,46,0,false,false⟩).toArray/\g.rd 52=.agg (LD.cs ⟨2,1774745990000050,55,0,false,false⟩).toArray/\g.rd 56=.agg (LD.cs ⟨2,1774745990000060,65,0,true,false⟩).toArray/\g.rd 60=.agg (LD.cs ⟨4,1774746010000000,20000000,0,false,false⟩).toArray/\g.rd 64=.agg (LD.cs ⟨3,1774744990000000,20000001,0,true,true⟩).toArray/\g.rd 68=.agg (LD.cs ⟨4,1774744990000000,20000001,0,false,false⟩).toArray/\g.rd 71=.agg (LD.cs ⟨3,1774745990000000,20000002,0,true,false⟩).toArray/\g.rd 75=.agg (LD.cs ⟨3,1774745990000001,20000003,0,false,true⟩).toArray/\g.rd 79=.agg (LD.cs ⟨4,1774745990000002,20000004,0,false,false⟩).toArray/\g.rd 80=.agg (LD.cs ⟨1,0,0,0,false,false⟩).toArray/\g.rd 84=.agg (LD.cs ⟨4,1774745990000009,20000009,0,false,false⟩).toArray/\g.rd 90=.agg (LD.cs ⟨0,1774745990000010,20000010,1774742390000000,false,false⟩).toArray/\g.rd 94=.agg (LD.cs ⟨4,1774745990000010,20000010,0,false,false⟩).toArray) ?_ ?_
 ·simp only[push_cast,LD.cs,g1,g3,k27,k30,k33,k36,k40,k44,k48,k52,k56,k60,k64,k68,k71,k75,k79,k80,w0,w1,w2,w3,w4,w5,w6,w7,w8,w9,w10,simprocAttr]
 clear g1 g3 k27 k30 k33 k36 k40 k44 k48 k52 k56 k60 k64 k68 k71 k75 k79 k80 g;rintro g X ⟨rfl,g1,g3,k27,k30,k33,k36,k40,k44,k48,k52,k56,k60,k64,k68,k71,k75,k79,k80,k84,k90,k94⟩;refine post_mid hE.mono (fun g X=>W++[.cells true (ld8.flatMap LD.cs)]=X/\g.rd 1=.slice (some ⟨b,0,none⟩) 20 3/\g.rd 4=.slice (some ⟨W.length,0,none⟩) 19 6) ?_ ?_
 ·simp only[push_cast,g1,g3,k27,k30,k33,k36,k40,k44,k48,k52,k56,k60,k64,k68,k71,k75,k79,k80,k84,k90,k94,fill8,simprocAttr]
 clear g1 g3 k27 k30 k33 k36 k40 k44 k48 k52 k56 k60 k64 k68 k71 k75 k79 k80 k84 k90 k94 g;rintro g X ⟨hX,g1,g4⟩
 have K:K8 h b W.length X:=by
  rw[<- hX];exact⟨fun j hj=>by rw[get_lt (by omega)]; exact xo j hj,by first | omega | (simp; omega),get_old xb,get_app0⟩
 clear hX xb xo;refine post_mid hE.mono (fun g X=>K8 h b W.length X) ?_ ?_
 ·simp only[push_cast,g1,g4,simprocAttr];refine loop8_1 C (N:=20) (NL:=19) rfl rfl K (Nat.le_refl _) ⟨by simp[g1],by simp[g4],by simp⟩ fun f' X' K'=>?_;simp only[push_cast,simprocAttr];exact K'
 clear g1 g4 g K;rintro g X K;refine post_mid hE.mono (fun g W'=>X=W'/\g.rd 8=.pointer none) (by simp only[push_cast,simprocAttr]) ?_;clear g;rintro g W' ⟨rfl,g8⟩;refine post_mid hE.mono (fun g W'=>X=W'/\g.rd 8=.pointer none) (by simp only[push_cast,g8,c31_nil C,simprocAttr]) ?_;clear g8 g;rintro g W' ⟨rfl,g8⟩;refine post_mid hE.mono (fun g W'=>X=W'/\g.rd 8=.pointer none) (by simp only[push_cast,g8,c27_nil C,simprocAttr]) ?_;clear g8 g;rintro g W' ⟨rfl,g8⟩;refine post_mid hE.mono (fun g X=>K8 h b W.length X/\g.rd 8=.pointer none) ?_ ?_
 ·have e26:=c26_nil C (lim:=h.length) (h:=X) 0 0 none true true;simp only[zv] at e26;simp only[push_cast,g8,e26,simprocAttr];exact K.app _
 clear g8 g K X;rintro g X ⟨K,g8⟩;refine post_mid hE.mono (fun g X=>K8 h b W.length X/\g.rd 8=.pointer none/\g.rd 10=.bool false) ?_ ?_
 ·have e22:=c22_nil C (lim:=h.length) (h:=X) 0 0;simp only[fireR] at e22;have xl:∀q:Prop,(h.length<=X.length\/q)=True:=fun q=>by have:=K.l; simp; omega
  simp only[push_cast,g8,e22,xl,simprocAttr];exact K.app _
 clear g8 g K X;rintro g X ⟨K,g8,g10⟩;have e20:=c20_nil C (lim:=h.length) (h:=X) 0 0 0 0 0 none;simp only[zv] at e20;have KX:=K.app [.cells true [.int .i64 0,.int .i64 0],.cells true [.int .i64 0,.int .i64 0]];generalize hY:X++[Blk.cells true [.int .i64 0,.int .i64 0],.cells true [.int .i64 0,.int .i64 0]]=Y at *;have l7:(st7:List Int).length=7:=rfl;have IN:(cd8 none 0 [] 0 7000000 false false ⟨#[120]⟩).In (Y++[.cells true (u32s st7)]):=cd8_in (.inl ⟨rfl,rfl,rfl⟩) (by decide) (by unfold i64r; omega) (by unfold i64r; omega) (fun g hg=>by cases hg)
 have e4:=c4 C (lim:=h.length) IN ⟨#[42,58,42,58,48,47,49,48]⟩ (stamp:=5) (by unfold i64r; omega) (u32s_sl (X:=Y++[.cells true (u32s st7)]) (b:=Y.length) (l:=st7) get_app0) (fun j hj=>by
  have:j=0\/j=1\/j=2\/j=3\/j=4\/j=5\/j=6:=by have:j<7:=hj; omega
  rcases this with rfl | rfl | rfl | rfl | rfl | rfl | rfl<;>exact⟨by decide,by decide⟩)
 simp only[CD.cs,cd8,u32s,st7,List.map_cons,List.map_nil,List.length_cons,List.length_nil,Nat.zero_add,Nat.reduceAdd] at e4;have e35:=c35_nil C (lim:=h.length) (h:=Y);have e24:=c24_nil C (lim:=h.length) (h:=Y);have e34:=c34_nil C (lim:=h.length) (h:=Y);have e17:=fun l=>c17 C (lim:=h.length) (h:=Y++l);have fin:∀l,(Y++l).take h.length=h:=fun l=>take_ext hE rfl (KX.app l).l (KX.app l).o;simp only[push_cast,g8,g10,e20,e35,e24,e34,e4,e17,simprocAttr];exact fin _
end
section
theorem VR.scal {m:Mp}{v:Value}(h:(∃b,v=.bool b)\/(∃k n,v=.int k n)\/∃s,v=.string s):VR m v v:=by
 rcases h with⟨b,rfl⟩ | ⟨k,n,rfl⟩ | ⟨s,rfl⟩
 ·exact .bool b
 ·exact .int k n
 ·exact .str s
def Scal (v:Value):Prop:=(∃b,v=.bool b)\/(∃k n,v=.int k n)\/∃s,v=.string s
abbrev Lying:=List (Option (Nat×Nat×List Value))
def mL (L:Lying):Mp:=fun b=>match L[b]? with
 | some (some (c,o,_))=>some ⟨c,o,0,false⟩
 | _=>none
def hL (L:Lying):Hp:=L.map fun
 | some (_,_,cs)=>.cells false cs
 | none=>.dead
theorem hL_len (L:Lying):(hL L).length=L.length:=by simp[hL]
theorem hL_get {L:Lying}{b c o:Nat}{cs:List Value}(h:L[b]?=some (some (c,o,cs))):(hL L)[b]?=some (.cells false cs):=by
 unfold hL;rw[List.getElem?_map,h];rfl
theorem mL_inv {L:Lying}{b:Nat}{p:Pl}(h:mL L b=some p):∃cs,L[b]?=some (some (p.c,p.base,cs))/\p.own=false:=by
 unfold mL at h;split at h
 ·rename_i c o cs hq;cases h;exact⟨cs,hq,rfl⟩
 ·cases h
def Lies (W:World)(L:Lying):Prop:=∀c o cs,some (c,o,cs)∈L->c<W.heap.size/\∀k,k<cs.length->W.cell? ⟨c,o+k,none⟩=some (cs.getD k undef)/\Scal (cs.getD k undef)
theorem start_hr [S:Start]{L:Lying}(h:Lies S.w L):HR (mL L) (hL L) S.w:=by
 refine⟨⟨Nat.le_refl _,fun _ _=>rfl,fun b p hb ho=>?_⟩,fun b p hb=>?_,fun b p k hb hk=>?_,fun b b' p p' hb _ _ _ _ ho=>?_,fun b p hb ho=>?_⟩
 ·obtain⟨cs,-,h2⟩:=mL_inv hb;rw[h2] at ho; cases ho
 ·obtain⟨cs,h1,-⟩:=mL_inv hb;refine⟨?_,(h _ _ _ (List.mem_of_getElem? h1)).1⟩;rw[hL_len];exact(List.getElem?_eq_some_iff.1 h1).1
 ·obtain⟨cs,h1,h2⟩:=mL_inv hb;have:=hL_get h1;rw[hk] at this;cases this;refine⟨h2.symm,fun i hi=>?_,fun ho=>by rw[h2] at ho; cases ho⟩;obtain⟨q1,q2⟩:=(h _ _ _ (List.mem_of_getElem? h1)).2 i hi;exact⟨_,q1,VR.scal q2⟩
 ·obtain⟨cs,-,h2⟩:=mL_inv hb;rw[h2] at ho; cases ho
 ·obtain⟨cs,-,h2⟩:=mL_inv hb;rw[h2] at ho; cases ho
section
variable {H:Type}{enc:TypeId×Value->H}{P:Program}{W:World}{spare:Nat->Bool}{n base:Nat}
end
end
section
open Go.Proofs.YthbopkpamlbjoaaGreatDoor
open Go.Joins Go.ChangeShapes Go.WideShapes Go.ChangeAt Go.RowKit Go.Deep
open Go.Proofs (Tryz.prog Tryz.underlying2 Tryz.underlying4)
set_option maxRecDepth 100000
theorem law_calls {E:Env}(hM:EnvMono E){W:World}(hE:@EnvOk ⟨W⟩ Tryz.prog E){L:Lying}(hL0:Lies W L){g:FuncId}{args:List Value}{args':Array Value}(ha:LR (mL L) args args'.toList){h':Hp}(he:evI E 0 (.func g) args (hL L)=some (.bool true,h')) :
  Calls Tryz.prog g args' W fun e W'=>e=.returned (.bool true)/\Below W.heap.size W W':=by
 letI:Start:=⟨W⟩
 obtain⟨n,hn⟩:=(evI_iff hM).1 he;have q:=((evF_ok hE n 0).1 g args (hL L) (.bool true) h' hn (mL L) W args' (start_hr hL0) (Nat.zero_le _) ha).2;refine(callsIn_wide.1 q).mono fun e W' hh=>?_;obtain⟨v',m',rfl,hv,H,S⟩:=hh;cases hv;refine⟨rfl,⟨S.os,S.tape,S.output,S.size,fun k hk=>S.cf k hk fun b p hb ho=>?_⟩⟩;obtain⟨cs,-,hown⟩:=mL_inv hb;rw[hown] at ho;cases ho
end
section
open Go.Proofs.YthbopkpamlbjoaaGreatDoor
open Go.Joins Go.ChangeShapes Go.WideShapes Go.ChangeAt Go.RowKit Go.Deep
open Go.Proofs (Tryz.prog Tryz.checked Tryz.underlying2 Tryz.underlying4)
set_option maxRecDepth 100000
def EnvGood (laid:List (String×DataW Unit)):Prop:=∀W:World,laidMetH Tryz.prog laid W->W.ShapedOpen Tryz.prog->∃E,Conds E/\@EnvOk ⟨W⟩ Tryz.prog E
theorem own:ownKnob Tryz.prog.godebug=none:=by kernel_rfl
end
section
open Go.Proofs.YthbopkpamlbjoaaGreatDoor
open Go.Joins Go.ChangeShapes Go.WideShapes Go.ChangeAt Go.RowKit Go.Deep
open Go.Proofs (Tryz.prog Tryz.f8 Tryz.func8 Tryz.params8)
set_option maxRecDepth 100000
theorem known_calls {W:World}{E:Env}(C:Conds E)(hE:@EnvOk ⟨W⟩ Tryz.prog E) :
  Calls Tryz.prog 8 #[] W fun e W'=>e=.returned (.bool true)/\Below W.heap.size W W' :=
 law_calls (L:=[]) C.hE.mono hE (fun c o cs hm=>by cases hm) (g:=8) (args:=[]) (args':=#[]) .nil (c8 C (lim:=0))
end
section
open Go.Proofs.YthbopkpamlbjoaaGreatDoor
open Go.Joins Go.ChangeShapes Go.WideShapes Go.ChangeAt Go.RowKit Go.Deep
open Go.Proofs (Tryz.prog Tryz.checked Tryz.f8 Tryz.func8 Tryz.params8 Tryz.underlying2 Tryz.underlying4)
set_option maxRecDepth 100000
theorem known_contract (hEnv:EnvGood Rows.timerKnownUptoRow.laid)(H:Type)(enc:TypeId×Value->H)(W:World)(base:Nat)(args:Array Value)(ds gs:List (DataW H))(before:List MemPlace)
  (hval:∀(j:Nat) t v,Tryz.f8.params[j]?=some t->args[j]?=some v->Value.okWide Tryz.prog W .any base t v)
  (hW:DataW.Whole enc Tryz.prog Tryz.f8.params.toList Rows.timerKnownSpec.vars false W args.toList ds gs before)(hL:laidMetH Tryz.prog Rows.timerKnownUptoRow.laid W)(hS:W.ShapedOpen Tryz.prog)(hb:Rows.uptoBulkAll (ds++gs)<=1048576) :
  Calls Tryz.prog 8 args W fun e W'=>∃v,e=.returned v/\Rows.timerKnownSpec.post enc Tryz.prog Tryz.f8 false true false false W args v W':=by
 have hW':=hW;obtain⟨p,q,hA0,hV,rfl,hfz,hnd⟩:=hW;have hA:DataW.TrodAll enc Tryz.prog W 0 (fun _=>true) true Tryz.f8.params.toList args.toList ds p:=hA0;rw[Tryz.params8] at hA hval;obtain⟨hargs,rfl,rfl⟩:=trodAll_nil hA;obtain rfl:args=#[]:=by cases args; simp_all
 obtain⟨rfl,rfl⟩:=trodVars_none hV;clear hA0;obtain⟨E,C,hE⟩:=hEnv W hL hS;refine(known_calls C hE).mono fun e W' ⟨he,bel⟩=>?_;subst he
 exact⟨_,rfl,_,_,_,[],[],[],hW',trodAll_mk1 (shut_bool Tryz.underlying4 _),
  trodAll_mk0,rfl,bel.frame _,fun h=>by cases h⟩
end
section
open Go.RowKit
variable [Start]
variable {P:Program}{lim:Nat}{m:Mp}{h:Hp}{w w':World}
theorem below_step (H:HR m h w)(B:Below w.heap.size w w'):HR m h w'/\Step lim m h w m h w':=by
 refine⟨⟨H.gl.of B.size (fun c hc _=>B.block c hc) (fun b p e ho=>Or.inr ⟨b,p,e,ho,rfl⟩),fun b p e=>⟨(H.dom b p e).1,Nat.lt_of_lt_of_le (H.dom b p e).2 B.size⟩,fun b p k e f=>(H.blk b p k e f).same (B.block _ (H.dom b p e).2),H.inj,H.off⟩,
  Sub.refl m,fun b p e e'=>(by rw[e] at e'; cases e'),Nat.le_refl _,fun _ _ _=>rfl,fun c hc _=>B.block c hc,B.size,B.os,B.tape,B.output,fun l _ hL b p k hb e f=>(hL b p k hb e f).same (B.block _ (H.dom b p e).2)⟩
theorem below_new (H:HR m h w)(hl:lim<=h.length)(B:Below w.heap.size w w'){k:Blk}{p:Pl}(h1:w.heap.size<=p.c)(h2:p.c<w'.heap.size)(hb:BR (ins m h.length p) w' p k)(hz:p.own=true->p.base=0) :
  HR (ins m h.length p) (h++[k]) w'/\Step lim m h w (ins m h.length p) (h++[k]) w':=by
 have hsub:=ins_sub H p;have old:∀b q,b≠h.length->m b=some q->b<h.length/\q.c<w.heap.size:=fun b q _ e=>H.dom b q e;refine⟨⟨H.gl.of B.size (fun c hc _=>B.block c hc) (fun b q e ho=>?_),fun b q e=>?_,fun b q k' e f=>?_,fun b b' q q' e e' hd hd' hc ho=>?_,ins_off H hz⟩,hsub,fun b q e e'=>?_,by simp,fun b hb _=>get_push hb,fun c hc _=>B.block c hc,B.size,B.os,B.tape,B.output,fun l hl' hL b q k' hb' e f=>?_⟩
 ·rcases ins_inv e with⟨rfl,rfl⟩ | ⟨_,e⟩
  ·exact .inl h1
  ·exact .inr ⟨b,q,e,ho,rfl⟩
 ·rcases ins_inv e with⟨rfl,rfl⟩ | ⟨hn,e⟩
  ·exact⟨by simp,h2⟩
  ·have:=old b q hn e;have:=B.size;exact⟨by simp; omega,by omega⟩
 ·rcases ins_inv e with⟨rfl,rfl⟩ | ⟨hn,e⟩
  ·rw[get_new] at f;cases f;exact hb
  ·have d:=old b q hn e;rw[get_push d.1] at f;exact((H.blk b q k' e f).same (B.block _ d.2)).mono hsub
 ·rcases ins_inv e with⟨h3,h4⟩ | ⟨hn,e1⟩
  ·rcases ins_inv e' with⟨h5,h6⟩ | ⟨hn',e2⟩
   ·rw[h3,h5]
   ·have:=old b' q' hn' e2;rw[h4] at hc;omega
  ·rcases ins_inv e' with⟨h5,h6⟩ | ⟨hn',e2⟩
   ·have:=old b q hn e1;rw[h6] at hc;omega
   ·have d:=old b q hn e1;have d':=old b' q' hn' e2;rw[get_push d.1] at hd;rw[get_push d'.1] at hd';exact H.inj b b' q q' e1 e2 hd hd' hc ho
 ·rcases ins_inv e with⟨rfl,rfl⟩ | ⟨hn,e⟩
  ·exact⟨Nat.le_refl _,.inl h1⟩
  ·rw[e] at e'; cases e'
 ·rcases ins_inv e with⟨rfl,rfl⟩ | ⟨hn,e⟩
  ·omega
  ·have d:=old b q hn e;rw[get_push d.1] at f;rw[cut_ins (by omega)];exact(hL b q k' hb' e f).same (B.block _ d.2)
theorem same_args {args:List Value}{args':Array Value}(hL:LR m args args'.toList)(ha:∀x∈args,(∃k n,x=.int k n)\/∃s,x=.string s):args=args'.toList:=by
 refine List.ext_getElem (by simpa using hL.1) fun i h1 h2=>?_;have:=hL.2 i h1;rw[List.getD_eq_getElem?_getD,List.getD_eq_getElem?_getD,List.getElem?_eq_getElem h1,List.getElem?_eq_getElem h2] at this;have hfi:=ha _ (List.getElem_mem h1);simp only[Option.getD_some] at this;generalize args[i]=x at this hfi;generalize args'.toList[i]=y at this;rcases hfi with⟨k,n,rfl⟩ | ⟨s,rfl⟩<;>(cases this; rfl)
theorem fn_flat {g:FuncId}{args:List Value}{v:Value}(hv:∀m,VR m v v)(hc:∀(args':Array Value) (w:World),args=args'.toList->Gl (fun _=>none) w->(∀W,(callFunc g args').run P W=.ok (.enter g args') W)/\Calls P g args' w fun e w'=>e=.returned v/\Below w.heap.size w w')(ha:∀x∈args,(∃k n,x=.int k n)\/∃s,x=.string s):FnOk P lim g args h v h:=by
 intro m w args' H hl hL;have e:=same_args hL ha;obtain⟨q1,q2⟩:=hc args' w e ⟨H.gl.1,H.gl.2.1,fun b p hb=>by cases hb⟩;refine⟨q1,callsIn_wide.2 (q2.mono fun e' w' ⟨he,B⟩=>?_)⟩;obtain⟨s1,s2⟩:=below_step (lim:=lim) H B;exact⟨v,m,he,hv m,s1,s2⟩
end
end Go.Ab
