/- What Go code of this program comes to on a small machine that its translation simulates (a part of the proof of a law of its timers). No condition. -/
import Derived.ProofKit
import Derived.OpenShut
import Derived.Test.YthbopkpamlbjoaaGreatDoorRows
import Derived.Below
import Derived.Carry
import Derived.Deep.DeepHandedRow
import Derived.ChangeOld
import Derived.ShutString
import Derived.Lib.SmallJoins
import Derived.Test.YthbopkpamlbjoaaGreatDoorCards
import Derived.Test.YthbopkpamlbjoaaGreatDoorTie
import Derived.Lay
import Derived.LaidMore
import Derived.Test.YthbopkpamlbjoaaGreatDoorP08
set_option linter.unusedSimpArgs false
set_option linter.unusedVariables false
set_option linter.unusedSectionVars false
set_option maxHeartbeats 4000000
namespace Go.Ab
section
open Tb
def dcs (c:CD)(lv:Int)(vl vs vb vp:Value):List Value:=[.slice c.ta c.gs.length c.te,.int .i64 c.acc,.int .i64 c.rnd,.bool c.per,.bool c.oc,.bool c.oz,.string c.un,.string c.nm,.int .u8 (c.k 0),.int .u8 (c.k 1),.int .u8 (c.k 2),.int .u8 (c.k 3),.int .u8 (c.k 4),.int .u8 (c.k 5),.int .u8 (c.k 6),.int .u8 (c.k 7),.int .u8 (c.k 8),.int .u8 (c.k 9),.int .u8 (c.k 10),.int .u8 (c.k 11),.int .u8 (c.k 12),.int .u8 (c.k 13),.int .u8 (c.k 14),.int .u8 (c.k 15),
 .slice c.z.ta c.z.tn c.z.te,.slice c.z.ma c.z.mn c.z.me,.slice c.z.xa c.z.xn c.z.xe,.string c.z.ft,vl,vs,.int .i64 lv,.bool false,.int .i64 (-1),.int .i64 (-1),.int .i64 0,.int .i64 0,vb,vp,.pointer none,.int .i64 (-1),.int .i64 (-1)]
def RowAt (A:Hp)(b:Option Nat)(L:List Value):Prop:=match b with
 | none=>L=[]
 | some b=>A[b]?=some (.cells true L)
theorem RowAt.of {A X:Hp}{b:Option Nat}{L:List Value}(H:RowAt A b L)(h:∀j,b=some j->j<A.length->X[j]?=A[j]?):RowAt X b L:=by
 cases b with
 | none=>exact H
 | some b=>exact(h b rfl (lt_of_get H)).trans H
def dk0 (c:CD)(lv:Int)(r:Option DR)(ys:List TK):DK:=⟨c,⟨lv,c.acc,0,0,-1,-1,none⟩,false,r,ys,-1,-1⟩
theorem dk0_cs (c:CD)(lv:Int)(r:Option DR)(ys:List TK):(dk0 c lv r ys).cs=dcs c lv (rv (r.map DR.l) ys.length 3) (rv (r.map DR.s) ys.length 9) (rv (r.map DR.b) ys.length 1) (rv (r.map DR.p) ys.length 1):=rfl
theorem take3_at {l:List Value}{i:Nat}{g:TG}(h:(l.drop i).take 3=g.cs):(l.drop i).take 3=[.int .u8 g.kind,.int .i64 g.span,.string g.text]:=h
variable {E:Env}(C:Conds E){lim:Nat}{h H0:Hp}{F:Nat->Prop}
include C
theorem c29 {c:CD}(H:c.In h)(hn:c.gs.length<=1000)(hnm:c.nm.size<1000000000)(hlim:lim<=h.length) :
  PostV (evI E lim (.func 29) [.agg c.cs.toArray] h) fun v h'=>∃(r:Option DR) (ys:List TK) (db:Nat),v=.pointer (some ⟨db,0,none⟩)/\(dk0 c (lateV E c.key c.nm c.rnd) r ys).In db h'/\Agr h h'/\h.length<db/\(ys.map TK.raw=c.gs.filter (keepG E)/\∀y∈ys,y.base=0/\y.spent=-1)/\∀R,r=some R->∀x∈ys,Spx E h' x db R.l:=by
 have hE:=C.hE;have gk:∀j,j<c.gs.length->∃g,c.gs[j]?=some g/\c.gs.getD j default=g:=fun j hj=>⟨c.gs[j],List.getElem?_eq_getElem hj,by rw[List.getD_eq_getElem?_getD,List.getElem?_eq_getElem hj]; rfl⟩;obtain⟨eL,-,-,-,-⟩:=late_is C c.keyOk c.nm hnm H.rnd.2;obtain⟨lv,hlv⟩:∃n,lateV E c.key c.nm c.rnd=n:=⟨_,rfl⟩;rw[hlv] at eL ⊢;simp only[CD.key] at eL;obtain⟨db,hdb⟩:∃db,db=h.length+1:=⟨_,rfl⟩;have x6:∀q:Prop,(lim<=db\/q)=True:=fun q=>by first | omega | (simp; omega)
 refine post_fn hE T29 (Nat.le_of_ble_eq_true rfl) ?_;show Post (evK E lim ac29 _ _) _;unfold ac29;refine post_mid hE.mono (fun g W=>h++[.cells true c.cs]=W/\g.rd 1=.pointer (some ⟨h.length,0,none⟩)) (by simp only[push_cast,CD.cs,simprocAttr]) ?_;rintro g W ⟨rfl,g1⟩;have hC:∀l,(h++(Blk.cells true c.cs::l))[h.length]?=some (.cells true c.cs):=fun l=>get_app0;have hC0:=hC [];refine post_mid hE.mono (fun g W=>h++[.cells true c.cs,.cells true (dk0 c lv none []).cs]=W/\g.rd 1=.pointer (some ⟨h.length,0,none⟩)/\g.rd 3=.pointer (some ⟨db,0,none⟩)) ?_ ?_
 ·rw[dk0_cs];simp only[CD.cs] at hC0;simp only[hdb,dcs,Option.map_none,List.length_nil,rv_none];simp only[push_cast,g1,hC0,eL,sureL,CD.cs,bytes_refl,simprocAttr]
 clear g1 g;rintro g W ⟨rfl,g1,g3⟩;refine post_mid hE.mono (fun g X=>∃(ys:List TK) (r:Option DR),(dk0 c lv r ys).In db X/\(∀R,r=some R->∀x∈ys,Spx E X x db R.l)/\(ys.map TK.raw=c.gs.filter (keepG E)/\∀y∈ys,y.base=0/\y.spent=-1)/\(∀j,j<h.length->X[j]?=h[j]?)/\g.rd 3=.pointer (some ⟨db,0,none⟩)) ?_ ?_
 case refine_2 =>
  clear g1 g3 g;rintro g X ⟨ys,r,D,sp,yr,xo,g3⟩;simp only[push_cast,g3,simprocAttr];refine⟨r,ys,db,rfl,D,fun j k e=>(xo j (lt_of_get e)).trans e,by omega,yr,sp⟩
 simp only[push_cast,g1,g3,simprocAttr]
 refine loop_post hE.mono (fun q g X=>∃(i:Nat) (ys:List TK) (r:Option DR),i<=c.gs.length/\(dk0 c lv r ys).In db X/\(∀R,r=some R->∀x∈ys,Spx E X x db R.l)/\(ys.map TK.raw=(c.gs.take i).filter (keepG E)/\∀y∈ys,y.base=0/\y.spent=-1)/\(∀j,j<h.length->X[j]?=h[j]?)/\X[h.length]?=some (.cells true c.cs) /\
  g.rd 1=.pointer (some ⟨h.length,0,none⟩)/\g.rd 3=.pointer (some ⟨db,0,none⟩)/\g.rd 4=.int .i64 i/\c.gs.length-i=q) ?_ c.gs.length _ _ ⟨0,[],none,Nat.zero_le _,⟨by rw[hdb,get_app]; rfl,rfl,rfl,by simp[dk0]⟩,(fun R e=>by cases e),⟨rfl,fun y hy=>by cases hy⟩,fun j hj=>get_lt hj,hC _,by simp[g1],by simp[g3],by simp,rfl⟩
 clear g1 g3 g;rintro q g X ⟨i,ys,r,hi,D,sp,yr,xo,xc,g1,g3,g4,hq⟩
 by_cases hlt:(i:Int)<c.gs.length
 case neg =>
  simp only[CD.cs] at xc;simp only[push_cast,lp29_0,g1,g3,g4,xc,hlt,simprocAttr];have:i=c.gs.length:=by omega
  subst this;rw[List.take_length] at yr;exact⟨ys,r,D,sp,yr,xo⟩
 have hi':i<c.gs.length:=by omega
 obtain⟨gg,hg1,hg2⟩:=gk i hi';have ysl:ys.length<=1000:=D.n
 have ysl':ys.length<=i:=by
  have:=congrArg List.length yr.1;rw[List.length_map] at this;have h2:=List.length_filter_le (keepG E) (c.gs.take i);simp at h2;omega
 have S:=H.row;rcases S with⟨s1,s2,s3⟩ | ⟨b0,o,own,cs,s1,s2,s3,s4,s5⟩
 ·omega
 have a3:(cs.drop (o+i*3)).take 3=gg.cs:=by rw[s5 i hi']; exact congrArg TG.cs hg2
 have a4:(o+i*3+3<=cs.length)=True:=eq_true (by omega);have a2:(0<=(i:Int))=True:=by simp
 have a8:=wn1 (i:=i);have x3:=(xo b0 (lt_of_get s3)).trans s3;have a3:=take3_at a3;have lX:=D.lt
 have t_len:(c.gs.take (i+1)).filter (keepG E)=(c.gs.take i).filter (keepG E)++(if keepG E gg=true then[gg] else[]):=by
  rw[List.take_add_one,hg1,List.filter_append]
  congr 1
  simp only[Option.toList,List.filter_cons,List.filter_nil]
 unfold lp29_0;refine post_mid hE.mono (fun g X'=>X'=X/\g.rd 1=.pointer (some ⟨h.length,0,none⟩)/\g.rd 3=.pointer (some ⟨db,0,none⟩)/\g.rd 4=.int .i64 i) ?_ ?_
 ·simp only[CD.cs] at xc;simp only[push_cast,g1,g3,g4,xc,hlt,simprocAttr]
 clear g1 g3 g4 g;rintro g X' ⟨rfl,g1,g3,g4⟩
 refine post_mid hE.mono (fun g X=>∃(ys:List TK) (r:Option DR),(dk0 c lv r ys).In db X/\(∀R,r=some R->∀x∈ys,Spx E X x db R.l)/\(ys.map TK.raw=(c.gs.take (i+1)).filter (keepG E)/\∀y∈ys,y.base=0/\y.spent=-1)/\(∀j,j<h.length->X[j]?=h[j]?)/\X[h.length]?=some (.cells true c.cs) /\
  g.rd 1=.pointer (some ⟨h.length,0,none⟩)/\g.rd 3=.pointer (some ⟨db,0,none⟩)/\g.rd 4=.int .i64 i) ?_ ?_
 case refine_2 =>
  clear g1 g3 g4 g;rintro g X ⟨ys,r,D,sp,yr,xo,xc,g1,g3,g4⟩;simp only[push_cast,g4,a8,simprocAttr];exact⟨_,(by omega:c.gs.length-(i+1)<q),i+1,ys,r,by omega,D,sp,yr,xo,xc,by simp[g1],by simp[g3],by simp,rfl⟩
 refine post_blk hE.mono ?_;refine post_mid hE.mono (fun g W=>X'++[.cells true gg.cs]=W/\g.rd 1=.pointer (some ⟨h.length,0,none⟩)/\g.rd 3=.pointer (some ⟨db,0,none⟩)/\g.rd 4=.int .i64 i/\g.rd 5=.pointer (some ⟨X'.length,0,none⟩)) ?_ ?_
 ·have xc':=xc;simp only[CD.cs,s1,s2] at xc';simp only[TG.cs];simp only[push_cast,g1,g3,g4,xc',x3,a2,a3,a4,hlt,simprocAttr]
 clear g1 g3 g4 g;rintro g W ⟨rfl,g1,g3,g4,g5⟩;obtain⟨v,h1,e16,s,rfl,A,sI,sB,sO⟩:=(parse_is C (lim:=lim) (h:=X'++[.cells true gg.cs]) gg.text (by first | omega | (simp; omega))).out;have Al:=A.le;have Al':X'.length+1<=h1.length:=by simpa using Al
 have x1:∀j,j<X'.length->h1[j]?=X'[j]?:=fun j hj=>by rw[eqAgr A (by first | omega | (simp; omega)),get_lt hj]
 have z0:h1[X'.length]?=some (.cells true gg.cs):=A _ _ get_app0;have zz:(X'++[Blk.cells true gg.cs])[X'.length]?=some (.cells true gg.cs):=get_app0;have e16o:=e16;refine post_mid hE.mono (fun g W=>h1++[.cells true s.cv]=W/\g.rd 1=.pointer (some ⟨h.length,0,none⟩)/\g.rd 3=.pointer (some ⟨db,0,none⟩)/\g.rd 4=.int .i64 i/\g.rd 5=.pointer (some ⟨X'.length,0,none⟩)/\g.rd 6=.pointer (some ⟨h1.length,0,none⟩)/\g.rd 7=.int .i64 (parseE E gg.text)) ?_ ?_
 ·have x61:∀q:Prop,(lim<=h1.length\/q)=True:=fun q=>by first | omega | (simp; omega)
  generalize hW:X'++[Blk.cells true gg.cs]=W at zz e16 ⊢;simp only[TG.cs] at zz;simp only[SD.cv] at e16 ⊢;simp only[push_cast,g1,g3,g4,g5,zz,e16,x61,simprocAttr]
 clear g1 g3 g4 g5 g;rintro g W ⟨rfl,g1,g3,g4,g5,g6,g7⟩;obtain⟨A0,hA0⟩:∃A0,A0=h1++[Blk.cells true s.cv]:=⟨_,rfl⟩;have lA0:A0.length=h1.length+1:=by rw[hA0]; simp
 have o0:∀j,j<X'.length->A0[j]?=X'[j]?:=fun j hj=>by rw[hA0,get_lt (by omega)]; exact x1 j hj
 have o1:∀j,j<h1.length->A0[j]?=h1[j]?:=fun j hj=>by rw[hA0,get_lt hj]
 have D0:(dk0 c lv r ys).In db A0:=D.of o0;have c5:A0[X'.length]?=some (.cells true gg.cs):=(o1 _ (by omega)).trans z0;have c6:A0[h1.length]?=some (.cells true s.cv):=by rw[hA0]; exact get_app0
 have spx:∀Y,(∀j,X'.length<j->j<h1.length->Y[j]?=h1[j]?)->∀m,h1.length<=m->Spx E Y ⟨gg.kind,gg.span,gg.text,s,0,-1⟩ db m:=fun Y hY m hm=>by
  refine⟨X'.length+1,h1.length,⟨lim,_,h1,parseE E gg.text,e16o,by first | omega | (simp; omega),by simp,rfl,fun j j1 j2=>hY j (by omega) j2⟩,sI.on sO fun j j1 j2=>hY j (by simp at j1; omega) j2,sB,by have:=sO; simpa using this,by show db<X'.length+1; omega,by omega⟩
 rw[<- hA0];clear hA0 e16 e16o zz x1 z0;refine post_mid hE.mono (fun g W=>W=A0/\g.rd 1=.pointer (some ⟨h.length,0,none⟩)/\g.rd 3=.pointer (some ⟨db,0,none⟩)/\g.rd 4=.int .i64 i/\g.rd 5=.pointer (some ⟨X'.length,0,none⟩)/\g.rd 6=.pointer (some ⟨h1.length,0,none⟩)/\g.rd 45=.bool (keepG E gg)) ?_ ?_
 ·unfold keepG;simp only[TG.cs] at c5;cases hk1:(gg.kind==1) with
  | false=>simp only[push_cast,g1,g3,g4,g5,g6,g7,c5,hk1,simprocAttr]
  | true =>
   cases hk2:(parseE E gg.text==0) with
   | false=>simp only[push_cast,g1,g3,g4,g5,g6,g7,c5,hk1,hk2,simprocAttr]
   | true=>simp only[push_cast,g1,g3,g4,g5,g6,g7,c5,hk1,hk2,simprocAttr]
 clear g1 g3 g4 g5 g6 g7 g;rintro g A0 ⟨rfl,g1,g3,g4,g5,g6,g45⟩;have xoA:∀j,j<h.length->A0[j]?=h[j]?:=fun j hj=>(o0 j (by omega)).trans (xo j hj);have xcA:A0[h.length]?=some (.cells true c.cs):=(o0 _ (by omega)).trans xc;cases hkeep:keepG E gg with
 | false =>
  rw[hkeep] at g45;simp only[push_cast,g1,g3,g4,g45,simprocAttr];refine⟨ys,r,D0,fun R hR x hx=>(sp R hR x hx).of (fun j j1 j2=>o0 j ?_) (Nat.le_refl _),⟨by rw[t_len,hkeep]; simpa using yr.1,yr.2⟩,xoA,xcA⟩;have T:=D.row;have:=lX.2 R hR;rw[show(dk0 c lv r ys).r=some R from hR] at T;omega
 | true =>
 rw[hkeep] at g45
 have tl2:(ys++[(⟨gg.kind,gg.span,gg.text,s,0,-1⟩:TK)]).map TK.raw=(c.gs.take (i+1)).filter (keepG E)/\∀y∈ys++[(⟨gg.kind,gg.span,gg.text,s,0,-1⟩:TK)],y.base=0/\y.spent=-1:=⟨by rw[t_len,hkeep,List.map_append,yr.1]; rfl,fun y hy=>by
  rcases List.mem_append.1 hy with hy | hy
  ·exact yr.2 y hy
  ·rw[List.mem_singleton.1 hy]; exact⟨rfl,rfl⟩⟩
 obtain⟨bl,hbl⟩:∃b,r.map DR.l=b:=⟨_,rfl⟩;obtain⟨bs,hbs⟩:∃b,r.map DR.s=b:=⟨_,rfl⟩;obtain⟨bb,hbb⟩:∃b,r.map DR.b=b:=⟨_,rfl⟩;obtain⟨bp,hbp⟩:∃b,r.map DR.p=b:=⟨_,rfl⟩
 have rows:RowAt A0 bl (ys.flatMap rawc)/\RowAt A0 bs (ys.flatMap specc)/\RowAt A0 bb (ys.flatMap basec)/\RowAt A0 bp (ys.flatMap spentc)/\(∀j,bl=some j\/bs=some j\/bb=some j\/bp=some j->db<j/\j<X'.length/\(∀R,r=some R->R.l<=j))/\(∀j,bl=some j->bs≠some j/\bb≠some j/\bp≠some j)/\(∀j,bs=some j->bb≠some j/\bp≠some j)/\(∀j,bb=some j->bp≠some j):=by
  have T:=D0.row;subst hbl hbs hbb hbp;cases hr:r with
  | none =>
   rw[show(dk0 c lv r ys).r=none from hr] at T;have T:ys=[]:=T;rw[T];refine⟨rfl,rfl,rfl,rfl,fun j hj=>?_,fun j hj=>(by cases hj),fun j hj=>(by cases hj),fun j hj=>by cases hj⟩;rcases hj with hj | hj | hj | hj<;>cases hj
  | some R =>
   have:=lX.2 R hr;rw[show(dk0 c lv r ys).r=some R from hr] at T;obtain⟨t1,t2,t3,t4,t5,t6,t7,t8⟩:=T;have ne:∀ {a b:Nat},a≠b->(some a:Option Nat)≠some b:=fun h e=>h (by injection e);refine⟨t5,t6,t7,t8,fun j hj=>?_,fun j hj=>?_,fun j hj=>?_,fun j hj=>?_⟩
   ·rcases hj with hj | hj | hj | hj<;>(injection hj with hj; exact⟨by omega,by omega,fun R' e=>by injection e with e; subst e; omega⟩)
   ·injection hj with hj; exact⟨ne (by omega),ne (by omega),ne (by omega)⟩
   ·injection hj with hj; exact⟨ne (by omega),ne (by omega)⟩
   ·injection hj with hj; exact ne (by omega)
 obtain⟨wl,ws,wb,wp,wj,wd1,wd2,wd3⟩:=rows;have ad:=D0.blk;rw[dk0_cs,hbl,hbs,hbb,hbp] at ad;obtain⟨n,hn'⟩:∃n,ys.length=n:=⟨_,rfl⟩;have lL:(ys.flatMap rawc).length=n*3:=by rw[chunk_len rawc_len,hn']
 have lS:(ys.flatMap specc).length=n*9:=by rw[chunk_len specc_len,hn']
 have lB:(ys.flatMap basec).length=n*1:=by rw[chunk_len basec_len,hn']
 have lP:(ys.flatMap spentc).length=n*1:=by rw[chunk_len spentc_len,hn']
 rw[hn'] at ad;clear D0;have y1:∀j,j=X'.length\/j=h1.length->j≠db/\bl≠some j/\bs≠some j/\bb≠some j/\bp≠some j:=fun j hj=>⟨by omega,fun e=>by have:=wj j (.inl e); omega,fun e=>by have:=wj j (.inr (.inl e)); omega,fun e=>by have:=wj j (.inr (.inr (.inl e))); omega,fun e=>by have:=wj j (.inr (.inr (.inr e))); omega⟩;obtain⟨y,hy⟩:∃y:TK,y=⟨gg.kind,gg.span,gg.text,s,0,-1⟩:=⟨_,rfl⟩;rw[<- hy] at tl2 spx;have c5:A0[X'.length]?=some (.cells true (rawc y)):=by rw[hy]; exact c5
 have c6:A0[h1.length]?=some (.cells true (specc y)):=by rw[hy]; exact c6
 have yb:basec y=[.int .i64 0]:=by rw[hy]; rfl
 have yp:spentc y=[.int .i64 (-1)]:=by rw[hy]; rfl
 refine post_ct hE g45 ?_;clear g45;refine post_mid hE.mono (fun g X=>∃nl,X[db]?=some (.cells true (dcs c lv (rv (some nl) (n+1) 3) (rv bs n 9) (rv bb n 1) (rv bp n 1)))/\X[nl]?=some (.cells true (ys.flatMap rawc++rawc y))/\A0.length<=nl/\(∀j,j<A0.length->j≠db->bl≠some j->X[j]?=A0[j]?)/\g.rd 1=.pointer (some ⟨h.length,0,none⟩)/\g.rd 3=.pointer (some ⟨db,0,none⟩)/\g.rd 4=.int .i64 i/\g.rd 6=.pointer (some ⟨h1.length,0,none⟩)) ?_ ?_
 ·have lb:=lt_of_get ad;have r6:∀l z,(A0++l).set db z=A0.set db z++l:=fun l z=>set_old lb;have hn0:(n+1)*32<=140737488355328:=by omega
  have hn1:((n+1)*32<=140737488355328)=True:=eq_true hn0;have hv:=c5;simp only[TK.raw_cs] at hv ⊢;have hv':∀l,(A0++l)[X'.length]?=_:=fun l=>get_old hv;have ad0:=ad;cases bl with
  | none =>
   have e:ys.flatMap rawc=[]:=wl;have n0:n=0:=by rw[e] at lL; simp at lL; omega
   simp only[dcs,rv_none,rv_some] at ad0 ⊢;have ad':∀l,(A0++l)[db]?=_:=fun l=>get_old ad0;simp only[push_cast,g1,g3,g4,g5,g6,ad0,ad',hv,hv',srcOf,x6,r6,hn1,n0,simprocAttr];refine⟨A0.length+1,?_,?_,by omega,fun j j1 j2 _=>by rw[get_lt (by simpa using j1),set_ne (Ne.symm j2)]⟩
   ·rw[get_lt (by simpa using lb),set_get lb]
   ·rw[get_appC (n:=A0.length) (k:=1) (by simp),e]; rfl
  | some b =>
   have wr:A0[b]?=some (.cells true (ys.flatMap rawc)):=wl;have lw:=lt_of_get wr;have hne:b≠db:=by have:=wj b (.inl rfl); omega
   simp only[dcs,rv_some] at ad0 ⊢;have ad':∀l,(A0++l)[db]?=_:=fun l=>get_old ad0;have ad2:∀y l,(A0.set b y++l)[db]?=A0[db]?:=fun y l=>by rw[get_lt (by simpa using lb),set_ne hne]
   have k1:∀l,(A0++l)[b]?=_:=fun l=>get_old wr;have k2:∀l y,(A0++l).set b y=A0.set b y++l:=fun l y=>set_old lw;have k5:∀y l z,(A0.set b y++l).set db z=(A0.set b y).set db z++l:=fun y l z=>set_old (by simpa using lb);have k9:(n*3=(ys.flatMap rawc).length)=True:=eq_true lL.symm;simp only[push_cast,g1,g3,g4,g5,g6,ad0,ad',ad2,hv,hv',srcOf,x6,hn1,k1,k2,k5,k9,simprocAttr];refine⟨A0.length+1,?_,?_,by omega,fun j j1 j2 j3=>by rw[get_lt (by simpa using j1),set_ne (Ne.symm j2),set_ne (fun e=>j3 (by rw[e]))]⟩
   ·rw[get_lt (by simpa using lb),set_get (by simpa using lb)]
   ·rw[get_appC (n:=A0.length) (k:=1) (by simp)]; rfl
 clear g1 g3 g4 g5 g6 g;rintro g A1 ⟨nl,ad1,wl',ln0,fr0,g1,g3,g4,g6⟩;have o2:A0.length<=A1.length:=by have:=lt_of_get wl'; omega
 clear ad; have ad:=ad1; clear ad1;have ws:RowAt A1 bs (ys.flatMap specc):=RowAt.of ws fun j hj j1=>fr0 j j1 (by have:=wj j (.inr (.inl hj)); omega) (fun e=>(wd1 j e).1 hj);have wb:RowAt A1 bb (ys.flatMap basec):=RowAt.of wb fun j hj j1=>fr0 j j1 (by have:=wj j (.inr (.inr (.inl hj))); omega) (fun e=>(wd1 j e).2.1 hj);have wp:RowAt A1 bp (ys.flatMap spentc):=RowAt.of wp fun j hj j1=>fr0 j j1 (by have:=wj j (.inr (.inr (.inr hj))); omega) (fun e=>(wd1 j e).2.2 hj);have c6:A1[h1.length]?=some (.cells true (specc y)):=(fr0 _ (by omega) (y1 _ (.inr rfl)).1 (y1 _ (.inr rfl)).2.1).trans c6;refine post_mid hE.mono (fun g X=>∃ns,X[db]?=some (.cells true (dcs c lv (rv (some nl) (n+1) 3) (rv (some ns) (n+1) 9) (rv bb n 1) (rv bp n 1)))/\X[ns]?=some (.cells true (ys.flatMap specc++specc y))/\A1.length<=ns/\(∀j,j<A1.length->j≠db->bs≠some j->X[j]?=A1[j]?)/\g.rd 1=.pointer (some ⟨h.length,0,none⟩)/\g.rd 3=.pointer (some ⟨db,0,none⟩)/\g.rd 4=.int .i64 i) ?_ ?_
 ·have lb:=lt_of_get ad;have r6:∀l z,(A1++l).set db z=A1.set db z++l:=fun l z=>set_old lb;have hn0:(n+1)*168<=140737488355328:=by omega
  have hn1:((n+1)*168<=140737488355328)=True:=eq_true hn0;have hv:=c6;simp only[specc,SD.cv] at hv ⊢;have hv':∀l,(A1++l)[h1.length]?=_:=fun l=>get_old hv;have ad0:=ad;cases bs with
  | none =>
   have e:ys.flatMap specc=[]:=ws;have n0:n=0:=by rw[e] at lS; simp at lS; omega
   simp only[dcs,rv_none,rv_some] at ad0 ⊢;have ad':∀l,(A1++l)[db]?=_:=fun l=>get_old ad0;simp only[push_cast,g1,g3,g4,g6,ad0,ad',hv,hv',srcOf,x6,r6,hn1,n0,simprocAttr];refine⟨A1.length+1,?_,?_,by omega,fun j j1 j2 _=>by rw[get_lt (by simpa using j1),set_ne (Ne.symm j2)]⟩
   ·rw[get_lt (by simpa using lb),set_get lb]
   ·rw[get_appC (n:=A1.length) (k:=1) (by simp),e]; rfl
  | some b =>
   have wr:A1[b]?=some (.cells true (ys.flatMap specc)):=ws;have lw:=lt_of_get wr;have hne:b≠db:=by have:=wj b (.inr (.inl rfl)); omega
   simp only[dcs,rv_some] at ad0 ⊢;have ad':∀l,(A1++l)[db]?=_:=fun l=>get_old ad0;have ad2:∀y l,(A1.set b y++l)[db]?=A1[db]?:=fun y l=>by rw[get_lt (by simpa using lb),set_ne hne]
   have k1:∀l,(A1++l)[b]?=_:=fun l=>get_old wr;have k2:∀l y,(A1++l).set b y=A1.set b y++l:=fun l y=>set_old lw;have k5:∀y l z,(A1.set b y++l).set db z=(A1.set b y).set db z++l:=fun y l z=>set_old (by simpa using lb);have k9:(n*9=(ys.flatMap specc).length)=True:=eq_true lS.symm;simp only[push_cast,g1,g3,g4,g6,ad0,ad',ad2,hv,hv',srcOf,x6,hn1,k1,k2,k5,k9,simprocAttr];refine⟨A1.length+1,?_,?_,by omega,fun j j1 j2 j3=>by rw[get_lt (by simpa using j1),set_ne (Ne.symm j2),set_ne (fun e=>j3 (by rw[e]))]⟩
   ·rw[get_lt (by simpa using lb),set_get (by simpa using lb)]
   ·rw[get_appC (n:=A1.length) (k:=1) (by simp)]; rfl
 clear g1 g3 g4 g6 g;rintro g A2 ⟨ns,ad1,ws',ln1,fr1,g1,g3,g4⟩;have o3:A1.length<=A2.length:=by have:=lt_of_get ws'; omega
 clear ad; have ad:=ad1; clear ad1;have wb:RowAt A2 bb (ys.flatMap basec):=RowAt.of wb fun j hj j1=>fr1 j j1 (by have:=wj j (.inr (.inr (.inl hj))); omega) (fun e=>(wd2 j e).1 hj);have wp:RowAt A2 bp (ys.flatMap spentc):=RowAt.of wp fun j hj j1=>fr1 j j1 (by have:=wj j (.inr (.inr (.inr hj))); omega) (fun e=>(wd2 j e).2 hj);refine post_mid hE.mono (fun g X=>∃nb,X[db]?=some (.cells true (dcs c lv (rv (some nl) (n+1) 3) (rv (some ns) (n+1) 9) (rv (some nb) (n+1) 1) (rv bp n 1)))/\X[nb]?=some (.cells true (ys.flatMap basec++basec y))/\A2.length<=nb/\(∀j,j<A2.length->j≠db->bb≠some j->X[j]?=A2[j]?)/\g.rd 1=.pointer (some ⟨h.length,0,none⟩)/\g.rd 3=.pointer (some ⟨db,0,none⟩)/\g.rd 4=.int .i64 i) ?_ ?_
 ·have lb:=lt_of_get ad;have r6:∀l z,(A2++l).set db z=A2.set db z++l:=fun l z=>set_old lb;have hn0:(n+1)*8<=140737488355328:=by omega
  have hn1:((n+1)*8<=140737488355328)=True:=eq_true hn0;rw[yb];have ad0:=ad;cases bb with
  | none =>
   have e:ys.flatMap basec=[]:=wb;have n0:n=0:=by rw[e] at lB; simp at lB; omega
   simp only[dcs,rv_none,rv_some] at ad0 ⊢;have ad':∀l,(A2++l)[db]?=_:=fun l=>get_old ad0;simp only[push_cast,g1,g3,g4,ad0,ad',srcOf,x6,r6,hn1,n0,simprocAttr];refine⟨A2.length+1,?_,?_,by omega,fun j j1 j2 _=>by rw[get_lt (by simpa using j1),set_ne (Ne.symm j2)]⟩
   ·rw[get_lt (by simpa using lb),set_get lb]
   ·rw[get_appC (n:=A2.length) (k:=1) (by simp),e]; rfl
  | some b =>
   have wr:A2[b]?=some (.cells true (ys.flatMap basec)):=wb;have lw:=lt_of_get wr;have hne:b≠db:=by have:=wj b (.inr (.inr (.inl rfl))); omega
   simp only[dcs,rv_some] at ad0 ⊢;have ad':∀l,(A2++l)[db]?=_:=fun l=>get_old ad0;have ad2:∀y l,(A2.set b y++l)[db]?=A2[db]?:=fun y l=>by rw[get_lt (by simpa using lb),set_ne hne]
   have k1:∀l,(A2++l)[b]?=_:=fun l=>get_old wr;have k2:∀l y,(A2++l).set b y=A2.set b y++l:=fun l y=>set_old lw;have k5:∀y l z,(A2.set b y++l).set db z=(A2.set b y).set db z++l:=fun y l z=>set_old (by simpa using lb);have k9:(n*1=(ys.flatMap basec).length)=True:=eq_true lB.symm;have k90:(n=(ys.flatMap basec).length)=True:=eq_true (by omega);simp only[push_cast,g1,g3,g4,ad0,ad',ad2,srcOf,x6,hn1,k1,k2,k5,k9,k90,Nat.mul_one,simprocAttr];refine⟨A2.length+1,?_,?_,by omega,fun j j1 j2 j3=>by rw[get_lt (by simpa using j1),set_ne (Ne.symm j2),set_ne (fun e=>j3 (by rw[e]))]⟩
   ·rw[get_lt (by simpa using lb),set_get (by simpa using lb)]
   ·rw[get_appC (n:=A2.length) (k:=1) (by simp)]; rfl
 clear g1 g3 g4 g;rintro g A3 ⟨nb,ad1,wb',ln2,fr2,g1,g3,g4⟩;have o4:A2.length<=A3.length:=by have:=lt_of_get wb'; omega
 clear ad; have ad:=ad1; clear ad1;have wp:RowAt A3 bp (ys.flatMap spentc):=RowAt.of wp fun j hj j1=>fr2 j j1 (by have:=wj j (.inr (.inr (.inr hj))); omega) (fun e=>(wd3 j e) hj);refine Post.mono (P:=fun x g X=>x=.norm/\∃np,X[db]?=some (.cells true (dcs c lv (rv (some nl) (n+1) 3) (rv (some ns) (n+1) 9) (rv (some nb) (n+1) 1) (rv (some np) (n+1) 1)))/\X[np]?=some (.cells true (ys.flatMap spentc++spentc y))/\A3.length<=np/\(∀j,j<A3.length->j≠db->bp≠some j->X[j]?=A3[j]?)/\g.rd 1=.pointer (some ⟨h.length,0,none⟩)/\g.rd 3=.pointer (some ⟨db,0,none⟩)/\g.rd 4=.int .i64 i) ?_ ?_
 ·have lb:=lt_of_get ad;have r6:∀l z,(A3++l).set db z=A3.set db z++l:=fun l z=>set_old lb;have hn0:(n+1)*8<=140737488355328:=by omega
  have hn1:((n+1)*8<=140737488355328)=True:=eq_true hn0;rw[yp];have ad0:=ad;cases bp with
  | none =>
   have e:ys.flatMap spentc=[]:=wp;have n0:n=0:=by rw[e] at lP; simp at lP; omega
   simp only[dcs,rv_none,rv_some] at ad0 ⊢;have ad':∀l,(A3++l)[db]?=_:=fun l=>get_old ad0;simp only[push_cast,g1,g3,g4,ad0,ad',srcOf,x6,r6,hn1,n0,simprocAttr];refine⟨A3.length+1,?_,?_,by omega,fun j j1 j2 _=>by rw[get_lt (by simpa using j1),set_ne (Ne.symm j2)]⟩
   ·rw[get_lt (by simpa using lb),set_get lb]
   ·rw[get_appC (n:=A3.length) (k:=1) (by simp),e]; rfl
  | some b =>
   have wr:A3[b]?=some (.cells true (ys.flatMap spentc)):=wp;have lw:=lt_of_get wr;have hne:b≠db:=by have:=wj b (.inr (.inr (.inr rfl))); omega
   simp only[dcs,rv_some] at ad0 ⊢;have ad':∀l,(A3++l)[db]?=_:=fun l=>get_old ad0;have ad2:∀y l,(A3.set b y++l)[db]?=A3[db]?:=fun y l=>by rw[get_lt (by simpa using lb),set_ne hne]
   have k1:∀l,(A3++l)[b]?=_:=fun l=>get_old wr;have k2:∀l y,(A3++l).set b y=A3.set b y++l:=fun l y=>set_old lw;have k5:∀y l z,(A3.set b y++l).set db z=(A3.set b y).set db z++l:=fun y l z=>set_old (by simpa using lb);have k9:(n*1=(ys.flatMap spentc).length)=True:=eq_true lP.symm;have k90:(n=(ys.flatMap spentc).length)=True:=eq_true (by omega);simp only[push_cast,g1,g3,g4,ad0,ad',ad2,srcOf,x6,hn1,k1,k2,k5,k9,k90,Nat.mul_one,simprocAttr];refine⟨A3.length+1,?_,?_,by omega,fun j j1 j2 j3=>by rw[get_lt (by simpa using j1),set_ne (Ne.symm j2),set_ne (fun e=>j3 (by rw[e]))]⟩
   ·rw[get_lt (by simpa using lb),set_get (by simpa using lb)]
   ·rw[get_appC (n:=A3.length) (k:=1) (by simp)]; rfl
 clear g1 g3 g4 g;rintro x g A4 ⟨rfl,np,ad1,wp',ln3,fr3,g1,g3,g4⟩;have o5:A3.length<=A4.length:=by have:=lt_of_get wp'; omega
 clear ad; have ad:=ad1; clear ad1;have k0:=lt_of_get wl';have k1:=lt_of_get ws';have k2:=lt_of_get wb';have k3:=lt_of_get wp';have big:∀j,X'.length<=j->bl≠some j/\bs≠some j/\bb≠some j/\bp≠some j:=fun j hj=>⟨fun e=>by have:=wj j (.inl e); omega,fun e=>by have:=wj j (.inr (.inl e)); omega,fun e=>by have:=wj j (.inr (.inr (.inl e))); omega,fun e=>by have:=wj j (.inr (.inr (.inr e))); omega⟩;have frT:∀j,j<A0.length->j≠db->(bl≠some j/\bs≠some j/\bb≠some j/\bp≠some j)->A4[j]?=A0[j]?:=fun j j1 j2 ⟨j3,j4,j5,j6⟩=>(fr3 j (by omega) j2 j6).trans ((fr2 j (by omega) j2 j5).trans ((fr1 j (by omega) j2 j4).trans (fr0 j j1 j2 j3)));have wl4:A4[nl]?=some (.cells true (ys.flatMap rawc++rawc y)):=(fr3 nl (by omega) (by omega) (big nl (by omega)).2.2.2).trans ((fr2 nl (by omega) (by omega) (big nl (by omega)).2.2.1).trans ((fr1 nl (by omega) (by omega) (big nl (by omega)).2.1).trans wl'));have ws4:A4[ns]?=some (.cells true (ys.flatMap specc++specc y)):=(fr3 ns (by omega) (by omega) (big ns (by omega)).2.2.2).trans ((fr2 ns (by omega) (by omega) (big ns (by omega)).2.2.1).trans ws');have wb4:A4[nb]?=some (.cells true (ys.flatMap basec++basec y)):=(fr3 nb (by omega) (by omega) (big nb (by omega)).2.2.2).trans wb';have low:∀j,j<=db->bl≠some j/\bs≠some j/\bb≠some j/\bp≠some j:=fun j hj=>⟨fun e=>by have:=wj j (.inl e); omega,fun e=>by have:=wj j (.inr (.inl e)); omega,fun e=>by have:=wj j (.inr (.inr (.inl e))); omega,fun e=>by have:=wj j (.inr (.inr (.inr e))); omega⟩;simp only[push_cast,g1,g3,g4,simprocAttr];refine⟨ys++[y],some ⟨nl,ns,nb,np⟩,⟨?_,rfl,⟨?_,?_,?_,?_,?_,?_,?_,?_⟩,?_⟩,?_,tl2,fun j hj=>(frT j (by omega) (by omega) (low j (by omega))).trans (xoA j hj),(frT _ (by omega) (by omega) (low _ (by omega))).trans xcA⟩
 ·rw[dk0_cs];simp only[Option.map_some,List.length_append,List.length_cons,List.length_nil,hn'];exact ad
 ·show db<nl; omega
 ·show nl<ns; omega
 ·show ns<nb; omega
 ·show nb<np; omega
 ·show A4[nl]?=_; rw[wl4]; simp[dk0]
 ·show A4[ns]?=_; rw[ws4]; simp[dk0]
 ·show A4[nb]?=_; rw[wb4]; simp[dk0]
 ·show A4[np]?=_; rw[wp']; simp[dk0]
 ·simp[dk0]; omega
 ·intro R hR x hx
  injection hR with hR
  subst hR;show Spx E A4 x db nl;rcases List.mem_append.1 hx with hx | hx
  ·obtain⟨R,hR⟩:∃R,r=some R:=by
    cases hr:r with
    | some R=>exact⟨R,rfl⟩
    | none =>
     have T:=D.row;rw[show(dk0 c lv r ys).r=none from hr] at T;have T:ys=[]:=T;rw[T] at hx;cases hx
   have hl:=lX.2 R hR;have T:=D.row;rw[show(dk0 c lv r ys).r=some R from hR] at T;obtain⟨t1,t2,t3,t4,-⟩:=T;refine(sp R hR x hx).of (fun j j1 j2=>(frT j (by omega) (by omega) ⟨fun e=>?_,fun e=>?_,fun e=>?_,fun e=>?_⟩).trans (o0 j (by omega))) (by omega)
   ·have:=(wj j (.inl e)).2.2 R hR; omega
   ·have:=(wj j (.inr (.inl e))).2.2 R hR; omega
   ·have:=(wj j (.inr (.inr (.inl e)))).2.2 R hR; omega
   ·have:=(wj j (.inr (.inr (.inr e)))).2.2 R hR; omega
  ·rw[List.mem_singleton.1 hx];exact spx A4 (fun j j1 j2=>(frT j (by omega) (by omega) (big j (by omega))).trans (o1 j j2)) nl (by omega)
end
section
open Tb
theorem chunk_ext {α:Type}{f:α->List Value}{k:Nat}(hf:∀x,(f x).length=k):∀(l:List α) (cs:List Value),cs.length=l.length*k->(∀(j:Nat) (x:α),l[j]?=some x->(cs.drop (j*k)).take k=f x)->cs=l.flatMap f
 | [],cs,h,_=>by
  rw[List.length_nil,Nat.zero_mul] at h;exact List.eq_nil_of_length_eq_zero h
 | x::l,cs,h,hc=>by
  have h0:=hc 0 x rfl;rw[Nat.zero_mul,List.drop_zero] at h0;have hl:(cs.drop k).length=l.length*k:=by rw[List.length_drop,h,List.length_cons,Nat.add_mul]; omega
  have ih:=chunk_ext hf l (cs.drop k) hl fun j y hy=>by
   have:=hc (j+1) y hy;rw[List.drop_drop,<- this,Nat.add_mul,Nat.one_mul,Nat.add_comm]
  rw[List.flatMap_cons,<- ih,<- h0,List.take_append_drop]
theorem own_row {α:Type}{f:α->List Value}{k:Nat}(hf:∀x,(f x).length=k){h:Hp}{lo:Nat}{a:Option Addr}{e:Nat}{l:List α}{ev:Nat->List Value}(hev:∀(j:Nat) (x:α),l[j]?=some x->ev j=f x)(W:OwnW k h lo a l.length e ev):∃b,Value.slice a l.length e=rv b l.length k/\(match b with | none=>l=[] | some b=>lo<=b/\h[b]?=some (.cells true (l.flatMap f))):=by
 rcases W with⟨rfl,h1,rfl⟩ | ⟨b,cs,rfl,rfl,h1,h2,h3,h4⟩
 ·have:=List.eq_nil_of_length_eq_zero h1;subst this;exact⟨none,rfl,rfl⟩
 ·refine⟨some b,rfl,h1,?_⟩;rw[h2,chunk_ext hf l cs h3 fun j x hx=>?_];rw[h4 j (lt_of_getL hx)];exact hev j x hx
theorem row_slw {α:Type}[Inhabited α]{f:α->List Value}{k:Nat}(hf:∀x,(f x).length=k){h:Hp}{b:Option Nat}{l:List α}(H:match b with | none=>l=[] | some b=>h[b]?=some (.cells true (l.flatMap f))):∃a e,rv b l.length k=.slice a l.length e/\SlW k h a l.length e fun j=>f (l.getD j default):=by
 cases b with
 | none =>
  have e:l=[]:=H;subst e;exact⟨none,0,rfl,.inl ⟨rfl,rfl,rfl⟩⟩
 | some b =>
  refine⟨some ⟨b,0,none⟩,k,rfl,.inr ⟨b,0,true,_,rfl,rfl,H,by rw[chunk_len hf]; omega,fun j hj=>?_⟩⟩;rw[Nat.zero_add,chunk_get hf l j (l.getD j default) (by rw[List.getD_eq_getElem?_getD,List.getElem?_eq_getElem hj]; rfl)]
variable {E:Env}(C:Conds E){lim:Nat}{h H0:Hp}{F:Nat->Prop}
include C
theorem c70_nil:evI E lim (.func 70) [.slice none 0 0] h=some (.slice none 0 0,h):=by
 have hE:=C.hE;rw[hE.fn T70]; simp only[push_cast,ac70,simprocAttr]
theorem c34 {t:TM}{tb:Nat}(T:t.In tb h)(hlim:lim<=h.length):PostV (evI E lim (.func 34) [.pointer (some ⟨tb,0,none⟩)] h) fun v h'=>∃(tb':Nat) (rb' wb':Option Nat),v=.pointer (some ⟨tb',0,none⟩)/\({ t with rb:=rb',wb:=wb' }:TM).In tb' h'/\(∀j,j<h.length->h'[j]?=h[j]?)/\h.length<=tb'/\(∀b,rb'=some b->h.length<=b)/\(∀b,wb'=some b->h.length<=b)/\(t.wb=none->t.ws=[]->wb'=none):=by
 have hE:=C.hE;have T2:=T.row;have T3:=T.wai
 have R:match t.rb with | none=>t.xs=[] | some b=>h[b]?=some (.cells true (t.xs.flatMap TK.cs)):=by
  cases hrb:t.rb with
  | none=>rw[hrb] at T2; exact T2
  | some b=>rw[hrb] at T2; exact T2.2
 have Wr:match t.wb with | none=>t.ws=[] | some b=>h[b]?=some (.cells true (t.ws.flatMap fd)):=by
  cases hwb:t.wb with
  | none=>rw[hwb] at T3; exact T3
  | some b=>rw[hwb] at T3; exact T3.2.2
 obtain⟨ra,re,hra,SR⟩:=row_slw TK.cs_len R;obtain⟨wa,we,hwa,SW⟩:=row_slw (f:=fd) (k:=2) (fun _=>rfl) Wr;obtain⟨A,hA⟩:∃A,A=h++[Blk.cells true t.cs]:=⟨_,rfl⟩;have SR1:SlW 14 A ra t.xs.length re fun j=>(t.xs.getD j default).cs:=by rw[hA]; exact SR.grow
 obtain⟨v,X1,e69,a1,e1,l1,rfl,rfl,O1⟩:=(c69 hE (lim:=lim) SR1 (by have:=T.n; omega) (fun j _=>rfl)).out;have SW1:SlW 2 (A++l1) wa t.ws.length we fun j=>fd (t.ws.getD j default):=by rw[hA]; exact SW.grow.grow
 obtain⟨a2,e2,l2,e70,O2,w0⟩:∃a2 e2 l2,evI E lim (.func 70) [.slice wa t.ws.length we] (A++l1)=some (.slice a2 t.ws.length e2,A++l1++l2)/\OwnW 2 (A++l1++l2) (A++l1).length a2 t.ws.length e2 (fun j=>fd (t.ws.getD j default))/\(t.wb=none->a2=none):=by
  cases hwb:t.wb with
  | none =>
   rw[hwb] at hwa Wr;have e0:t.ws=[]:=Wr;rw[e0] at hwa ⊢;simp only[rv_none,List.length_nil] at hwa ⊢
   injection hwa with q1 q2 q3
   subst q1 q3;exact⟨none,0,[],by rw[List.append_nil]; exact c70_nil C,.inl ⟨rfl,rfl,rfl⟩,fun _=>rfl⟩
  | some b =>
   obtain⟨v,X2,e70,a2,e2,l2,rfl,rfl,O2⟩:=(c70 hE (lim:=lim) SW1 (by have:=T.m; omega) (fun j _=>rfl)).out;exact⟨a2,e2,l2,e70,O2,fun h=>by cases h⟩
 have hb:=T.blk;simp only[TM.cs,hra,hwa] at hb;have hA':=hA;simp only[TM.cs,hra,hwa] at hA';have lA:A.length=h.length+1:=by rw[hA]; simp
 have x6:∀q:Prop,(lim<=h.length\/q)=True:=fun q=>by simp[hlim]
 have lb:=lt_of_get hb;have hbA:∀l,(A++l)[tb]?=_:=fun l=>get_old (by rw[hA]; exact get_old hb);have hbA0:=hbA [];rw[List.append_nil] at hbA0;have lZ:∀y:Blk,(A.set h.length y).length=A.length:=fun y=>by simp
 have z1:A[h.length]?=some (.cells true t.cs):=by rw[hA]; exact get_app0
 have z2:∀l,(A++l)[h.length]?=some (.cells true t.cs):=fun l=>get_old z1;have z3:∀l y,(A++l).set h.length y=A.set h.length y++l:=fun l y=>set_old (by omega);have z4:∀l y,(A.set h.length y++l)[h.length]?=some y:=fun l y=>get_old (set_get (by omega));have z5:∀l y z,(A.set h.length y++l).set h.length z=A.set h.length z++l:=fun l y z=>by rw[set_old (by first | omega | (simp; omega)),List.set_set]
 simp only[TM.cs,hra,hwa] at z1 z2;rw[List.append_assoc] at e70 O2;have eA:∀y,(h++[y]).set h.length (.cells true t.cs)=A:=fun y=>by rw[hA,List.set_append_right _ _ (Nat.le_refl _)]; simp
 simp only[TM.cs,hra,hwa] at eA;obtain⟨p,hp⟩:=zv_ptr t.k.z;simp only[hp] at hb hbA hbA0 z1 z2 eA hA';rw[hE.fn T34]; simp only[push_cast,ac34,hb,get_old hb,srcOf,eA,hbA,hbA0,z1,z2,z3,z4,z5,x6,e69,e70,sureL,simprocAttr]
 obtain⟨rb',r1,r2⟩:=own_row (f:=TK.cs) (l:=t.xs) TK.cs_len (fun j x hx=>by
  show(t.xs.getD j default).cs=_;rw[List.getD_eq_getElem?_getD,hx]; rfl) O1
 obtain⟨wb',u1,u2⟩:=own_row (f:=fd) (k:=2) (l:=t.ws) (fun _=>rfl) (fun j x hx=>by
  show fd (t.ws.getD j default)=_;rw[List.getD_eq_getElem?_getD,hx]; rfl) O2
 have hw0:t.wb=none->wb'=none:=fun hw=>by
  have e:=w0 hw;cases wb' with
  | none=>rfl
  | some b=>rw[e] at u1; cases u1
 have fr:∀(y:Blk) j,j<h.length->(A.set h.length y++(l1++l2))[j]?=h[j]?:=fun y j hj=>by rw[get_lt (by first | omega | (simp; omega)),set_ne (by omega),hA,get_lt hj]
 have nr:∀b,rb'=some b->h.length+1<=b/\(A++l1)[b]?=some (.cells true (tks t.xs)):=fun b e=>by
  rw[e] at r2;have:=r2.1;exact⟨by omega,r2.2⟩
 have nw:∀b,wb'=some b->A.length+l1.length<=b/\(A++(l1++l2))[b]?=some (.cells true (fds t.ws)):=fun b e=>by
  rw[e] at u2;have:=u2.1;rw[List.length_append] at this;exact⟨this,u2.2⟩
 have nx:rb'=none->t.xs=[]:=fun e=>by rw[e] at r2; exact r2
 have ny:wb'=none->t.ws=[]:=fun e=>by rw[e] at u2; exact u2
 have st:∀(y:Blk) b,h.length+1<=b->(A.set h.length y++(l1++l2))[b]?=(A++(l1++l2))[b]?:=fun y b hb=>by
  have e:(A++(l1++l2)).set h.length y=A.set h.length y++(l1++l2):=set_old (by omega);rw[<- e,set_ne (by omega)]
 refine⟨h.length,rb',wb',rfl,⟨?_,?_,?_,T.n,T.m⟩,fun j hj=>fr _ j hj,Nat.le_refl _,fun b e=>by have:=(nr b e).1; omega,fun b e=>by have:=(nw b e).1; omega,fun h1 _=>hw0 h1⟩
 ·rw[z4,r1,u1,<- hp]; rfl
 ·simp only;cases hrb':rb' with
  | none=>exact nx hrb'
  | some b =>
   obtain⟨q1,q2⟩:=nr b hrb';refine⟨by omega,?_⟩;rw[st _ b q1,<- List.append_assoc];exact get_old q2
 ·simp only;cases hwb':wb' with
  | none=>exact ny hwb'
  | some b =>
   obtain⟨q1,q2⟩:=nw b hwb';refine⟨by omega,fun e=>?_,?_⟩
   ·obtain⟨q3,q4⟩:=nr b e;have:=lt_of_get q4;rw[List.length_append] at this;omega
   ·rw[st _ b (by omega)];exact q2
end
section
open Tb
def Zo (Z z:Option ZN):Prop:=z=none\/z=Z
def tm (t:TM)(tb j:Nat):Prop:=j=tb\/t.rb=some j\/t.wb=some j
def dm (r:Option DR)(db j:Nat):Prop:=j=db\/∃R,r=some R/\(j=R.l\/j=R.s\/j=R.b\/j=R.p)
structure KV (E:Env)(H0:Hp)(F:Nat->Prop)(Z:Option ZN)(k:KN)(xs:List TK):Prop where
 ok:k.Ok
 l:0<=k.late/\k.late<=9223372036854775806
 z:Zo Z k.z
 xs:∀x∈xs,x.Ok/\∀z,Zo Z z->AskF E H0 F z x
structure TV (E:Env)(H0:Hp)(F:Nat->Prop)(Z:Option ZN)(t:TM)(tb:Nat)(X:Hp):Prop where
 T:t.In tb X
 W:t.Wt
 K:KV E H0 F Z t.k t.xs
 n:∀j,tm t tb j->¬ F j
structure DV (E:Env)(H0:Hp)(F:Nat->Prop)(Z:Option ZN)(d:DK)(db:Nat)(X:Hp):Prop where
 D:d.In db X
 K:KV E H0 F Z d.k d.ys
 n:¬ F db/\∀R,d.r=some R->¬ F R.b/\¬ F R.p
structure TStep (E:Env)(H0:Hp)(F:Nat->Prop)(Z:Option ZN)(t:TM)(tb:Nat)(t':TM)(X X':Hp):Prop where
 v:TV E H0 F Z t' tb X'
 f:∀j,j<X.length->¬ tm t tb j->X'[j]?=X[j]?
 m:∀j,tm t' tb j->tm t tb j\/X.length<=j
 l:X.length<=X'.length
structure DStep (E:Env)(H0:Hp)(F:Nat->Prop)(Z:Option ZN)(d:DK)(db:Nat)(d':DK)(X X':Hp):Prop where
 v:DV E H0 F Z d' db X'
 f:d.Fr db X X'
 r:d'.r=d.r
 l:X.length<=X'.length
theorem TM.In.tlt {t:TM}{tb:Nat}{X:Hp}(T:t.In tb X){j:Nat}(h:tm t tb j):j<X.length:=by
 rcases h with rfl | h | h
 ·exact lt_of_get T.blk
 ·have:=T.row; rw[h] at this; exact lt_of_get this.2
 ·have:=T.wai; rw[h] at this; exact lt_of_get this.2.2
theorem DK.In.dlt {d:DK}{db:Nat}{X:Hp}(D:d.In db X){j:Nat}(h:dm d.r db j):j<X.length:=by
 rcases h with rfl | ⟨R,hR,h⟩
 ·exact D.lt.1
 ·have:=D.lt.2 R hR;have T:=D.row;rw[hR] at T;omega
theorem TM.In.onm {t:TM}{tb:Nat}{h X:Hp}(T:t.In tb h)(H:∀j,tm t tb j->X[j]?=h[j]?):t.In tb X:=T.on (H _ (.inl rfl)) (fun b hb=>H b (.inr (.inl hb))) fun b hb=>H b (.inr (.inr hb))
theorem DK.In.onm {d:DK}{db:Nat}{h X:Hp}(D:d.In db h)(H:∀j,dm d.r db j->X[j]?=h[j]?):d.In db X:=D.on (H _ (.inl rfl)) fun r hr=>⟨H _ (.inr ⟨r,hr,.inl rfl⟩),H _ (.inr ⟨r,hr,.inr (.inl rfl)⟩),H _ (.inr ⟨r,hr,.inr (.inr (.inl rfl))⟩),H _ (.inr ⟨r,hr,.inr (.inr (.inr rfl))⟩)⟩
structure PW (E:Env)(H0:Hp)(F:Nat->Prop)(Z:Option ZN)(t:TM)(tb:Nat)(d:DK)(db nb:Nat)(B:Blk)(X:Hp):Prop where
 vt:TV E H0 F Z t tb X
 vd:DV E H0 F Z d db X
 c:Ctx H0 F X
 s:∀j,tm t tb j->¬ dm d.r db j
 now:X[nb]?=some B
 nt:¬ tm t tb nb
 nd:¬ dm d.r db nb
theorem PW.keep {E:Env}{H0:Hp}{F:Nat->Prop}{Z:Option ZN}{t:TM}{tb:Nat}{d:DK}{db nb:Nat}{B:Blk}{X X':Hp}(P:PW E H0 F Z t tb d db nb B X)(h:∀j,j<X.length->tm t tb j\/dm d.r db j\/F j\/j=nb->X'[j]?=X[j]?):PW E H0 F Z t tb d db nb B X' :=
 ⟨⟨P.vt.T.onm fun j hj=>h j (P.vt.T.tlt hj) (.inl hj),P.vt.W,P.vt.K,P.vt.n⟩,⟨P.vd.D.onm fun j hj=>h j (P.vd.D.dlt hj) (.inr (.inl hj)),P.vd.K,P.vd.n⟩,P.c.of fun j hj=>h j (P.c.L j hj) (.inr (.inr (.inl hj))),P.s,(h nb (lt_of_get P.now) (.inr (.inr (.inr rfl)))).trans P.now,P.nt,P.nd⟩
theorem PW.tstep {E:Env}{H0:Hp}{F:Nat->Prop}{Z:Option ZN}{t t':TM}{tb:Nat}{d:DK}{db nb:Nat}{B:Blk}{X X':Hp}(P:PW E H0 F Z t tb d db nb B X)(S:TStep E H0 F Z t tb t' X X'):PW E H0 F Z t' tb d db nb B X' :=
 ⟨S.v,⟨P.vd.D.onm fun j hj=>S.f j (P.vd.D.dlt hj) fun h=>P.s j h hj,P.vd.K,P.vd.n⟩,P.c.of fun j hj=>S.f j (P.c.L j hj) fun h=>P.vt.n j h hj,
  fun j hj=>by
   rcases S.m j hj with h | h
   ·exact P.s j h
   ·exact fun h2=>by have:=P.vd.D.dlt h2; omega,
  (S.f nb (lt_of_get P.now) P.nt).trans P.now,fun h=>by
   rcases S.m nb h with h | h
   ·exact P.nt h
   ·have:=lt_of_get P.now; omega,P.nd⟩
theorem fr_dm {d:DK}{db:Nat}{X X':Hp}(f:d.Fr db X X'){j:Nat}(h:j<X.length)(hn:¬ dm d.r db j):X'[j]?=X[j]?:=f j h (fun e=>hn (.inl e)) fun R hR=>⟨fun e=>hn (.inr ⟨R,hR,.inr (.inr (.inl e))⟩),fun e=>hn (.inr ⟨R,hR,.inr (.inr (.inr e))⟩)⟩
theorem PW.dstep {E:Env}{H0:Hp}{F:Nat->Prop}{Z:Option ZN}{t:TM}{tb:Nat}{d d':DK}{db nb:Nat}{B:Blk}{X X':Hp}(P:PW E H0 F Z t tb d db nb B X)(S:DStep E H0 F Z d db d' X X'):PW E H0 F Z t tb d' db nb B X' :=
 ⟨⟨P.vt.T.onm fun j hj=>fr_dm S.f (P.vt.T.tlt hj) (P.s j hj),P.vt.W,P.vt.K,P.vt.n⟩,S.v,P.c.of fun j hj=>S.f j (P.c.L j hj) (fun e=>P.vd.n.1 (e▸hj)) fun R hR=>⟨fun e=>(P.vd.n.2 R hR).1 (e▸hj),fun e=>(P.vd.n.2 R hR).2 (e▸hj)⟩,
  fun j hj=>by rw[S.r]; exact P.s j hj,(fr_dm S.f (lt_of_get P.now) P.nd).trans P.now,P.nt,by rw[S.r]; exact P.nd⟩
theorem KV.map {E:Env}{H0:Hp}{F:Nat->Prop}{Z:Option ZN}{k k':KN}{xs:List TK}(K:KV E H0 F Z k xs){f:TK->TK}(hk:k'.Ok)(hl:k'.late=k.late)(hz:Zo Z k'.z)(hf:∀x∈xs,(f x).Ok/\(f x).kind=x.kind/\(f x).spec=x.spec/\(f x).text=x.text):KV E H0 F Z k' (xs.map f) :=
 ⟨hk,by rw[hl]; exact K.l,hz,fun x hx=>by
  obtain⟨y,hy,rfl⟩:=List.mem_map.1 hx;obtain⟨o,k1,k2,k3⟩:=hf y hy;refine⟨o,fun z hz=>?_⟩;unfold AskF;rw[k1,k2,k3];exact(K.xs y hy).2 z hz⟩
theorem start_ok2 {x:TK}(hx:x.Ok){R s:Int}(hR:i64r R)(hs:i64r s):(startX R s x).Ok/\(startX R s x).kind=x.kind/\(startX R s x).spec=x.spec/\(startX R s x).text=x.text:=by
 refine⟨⟨hx.span,?_,by show i64r (-1); unfold i64r; omega⟩,rfl,rfl,rfl⟩;show i64r (if s<0 then R else min R s);unfold i64r at *;split<;>omega
theorem jump_ok {x:TK}(hx:x.Ok){R:Int}(hR:i64r R):(jumpX R x).Ok/\(jumpX R x).kind=x.kind/\(jumpX R x).spec=x.spec/\(jumpX R x).text=x.text:=by
 refine⟨⟨hx.span,?_,hx.spent⟩,rfl,rfl,rfl⟩;show i64r (min x.base R);have:=hx.base;unfold i64r at *;omega
variable {E:Env}(C:Conds E){lim:Nat}{h H0:Hp}{F:Nat->Prop}
include C
theorem KV.fire {Z:Option ZN}{k:KN}{xs:List TK}(K:KV E H0 F Z k xs)(hF:∀j,F j->j<H0.length){R:Int}(hR:0<=R/\R<=9223372036854775807)(M:Int):KV E H0 F Z k (xs.map (fireX E H0 k R M)) :=
 K.map K.ok rfl K.z fun x hx=>fire_ok C (M:=M) (((K.xs x hx).2 _ K.z).at ⟨fun _ _=>rfl,hF⟩) (K.xs x hx).1 (by have:=K.l; omega) (by have:=K.l; omega)
theorem TV.start {Z:Option ZN}{t:TM}{tb:Nat}{X:Hp}(V:TV E H0 F Z t tb X)(ha:t.act=false)(hlim:lim<=tb){R M S s:Int}(hR:i64r R)(hM:i64r M)(hS:i64r S)(hs:i64r s)(S0:Int){z:Option ZN}(hz:Zo Z z) :
  PostV (evI E lim (.func 20) [.pointer (some ⟨tb,0,none⟩),.agg #[.int .i64 R,.int .i64 M],.agg #[.int .i64 S0,.int .i64 S],.int .i64 s,zv z] X) fun v X'=>v=.int .i64 0/\TStep E H0 F Z t tb (t.start R M S s z) X X':=by
 obtain⟨v,X',e,rfl,T',f,l⟩:=(c20 C (lim:=lim) V.T ha hlim R M S0 S s z).out;refine PostV.of e ⟨rfl,⟨T',⟨⟨none,none,rfl⟩,fun _=>rfl⟩,V.K.map ⟨V.K.ok.late,V.K.ok.acc,hS,hM,V.K.ok.up,V.K.ok.dn⟩ rfl hz fun x hx=>start_ok2 (V.K.xs x hx).1 hR hs,?_⟩,fun j j1 j2=>f j j1 (fun e=>j2 (.inl e)) (fun e=>j2 (.inr (.inl e))),?_,l⟩
 ·rintro j (h | h | h)
  ·exact V.n j (.inl h)
  ·exact V.n j (.inr (.inl h))
  ·cases h
 ·rintro j (h | h | h)
  ·exact .inl (.inl h)
  ·exact .inl (.inr (.inl h))
  ·cases h
theorem TV.on {Z:Option ZN}{t:TM}{tb:Nat}{X:Hp}(V:TV E H0 F Z t tb X)(ha:t.act=true)(R M S0 S s:Int)(z:Option ZN) :
  PostV (evI E lim (.func 20) [.pointer (some ⟨tb,0,none⟩),.agg #[.int .i64 R,.int .i64 M],.agg #[.int .i64 S0,.int .i64 S],.int .i64 s,zv z] X) fun v X'=>v=.int .i64 4/\TStep E H0 F Z t tb t X X' :=
 PostV.of (c20_on C V.T.blk ha R M S0 S s z) ⟨rfl,⟨V.T.of fun j hj=>get_lt hj,V.W,V.K,V.n⟩,fun j hj _=>get_lt hj,fun j hj=>.inl hj,by simp⟩
theorem TV.put {Z:Option ZN}{t t':TM}{tb:Nat}{X:Hp}(V:TV E H0 F Z t tb X)(h1:t'.rb=t.rb)(h2:t'.wb=t.wb)(h3:t'.xs=t.xs)(h4:t'.ws=t.ws)(hk:t'.k.Ok)(hl:t'.k.late=t.k.late)(hz:t'.k.z=t.k.z):TStep E H0 F Z t tb t' X (X.set tb (.cells true t'.cs)):=by
 have lb:=lt_of_get V.T.blk;have m:∀j,tm t' tb j->tm t tb j:=fun j=>by unfold tm; rw[h1,h2]; exact id
 refine⟨⟨?_,⟨by rw[h4]; exact V.W.sh,by rw[h4,h2]; exact V.W.no⟩,⟨hk,by rw[hl]; exact V.K.l,by rw[hz]; exact V.K.z,by rw[h3]; exact V.K.xs⟩,fun j hj=>V.n j (m j hj)⟩,fun j j1 j2=>set_ne (fun e=>j2 (.inl e.symm)),fun j hj=>.inl (m j hj),by simp⟩;refine⟨set_get lb,?_,?_,by rw[h3]; exact V.T.n,by rw[h4]; exact V.T.m⟩
 ·have:=V.T.row;rw[h1,h3];cases hrb:t.rb with
  | none=>rw[hrb] at this; exact this
  | some b=>rw[hrb] at this; exact⟨this.1,(set_ne (Ne.symm this.1)).trans this.2⟩
 ·have:=V.T.wai;rw[h1,h2,h4];cases hwb:t.wb with
  | none=>rw[hwb] at this; exact this
  | some b=>rw[hwb] at this; exact⟨this.1,this.2.1,(set_ne (Ne.symm this.1)).trans this.2.2⟩
theorem TV.stop {Z:Option ZN}{t:TM}{tb:Nat}{X:Hp}(V:TV E H0 F Z t tb X) :
  PostV (evI E lim (.func 31) [.pointer (some ⟨tb,0,none⟩)] X) fun v X'=>v=undef/\TStep E H0 F Z t tb { t with act:=false } X X' :=
 PostV.of (c31 C V.T.blk) ⟨rfl,TV.put C V rfl rfl rfl rfl V.K.ok rfl rfl⟩
def TM.unit (t:TM)(up:Bool)(M:Int):TM:={ t with k:={ t.k with up:=if up=true then M else t.k.up,dn:=if up=true then t.k.dn else M } }
theorem TV.unit {Z:Option ZN}{t:TM}{tb:Nat}{X:Hp}(V:TV E H0 F Z t tb X)(up:Bool)(R:Int){M:Int}(hM:i64r M) :
  PostV (evI E lim (.func 27) [.pointer (some ⟨tb,0,none⟩),.bool up,.agg #[.int .i64 R,.int .i64 M]] X) fun v X'=>v=undef/\TStep E H0 F Z t tb (t.unit up M) X X':=by
 have e:=c27 C (lim:=lim) V.T.blk up R M;cases up with
 | true=>exact PostV.of e ⟨rfl,TV.put C V rfl rfl rfl rfl ⟨V.K.ok.late,V.K.ok.acc,V.K.ok.st,V.K.ok.ac,hM,V.K.ok.dn⟩ rfl rfl⟩
 | false=>exact PostV.of e ⟨rfl,TV.put C V rfl rfl rfl rfl ⟨V.K.ok.late,V.K.ok.acc,V.K.ok.st,V.K.ok.ac,V.K.ok.up,hM⟩ rfl rfl⟩
theorem TV.fire {Z:Option ZN}{t:TM}{tb:Nat}{X:Hp}(V:TV E H0 F Z t tb X)(c:Ctx H0 F X)(hF:∀j,F j->j<H0.length)(ha:t.act=true){R:Int}(hR:0<=R/\R<=9223372036854775807)(M:Int) :
  PostV (evI E lim (.func 22) [.pointer (some ⟨tb,0,none⟩),.agg #[.int .i64 R,.int .i64 M]] X) fun v X'=>v=fireR (firedL E H0 t R M++t.ws).head?/\TStep E H0 F Z t tb (t.fire E H0 R M) X X':=by
 obtain⟨v,X',e,rfl,l1,T',f⟩:=(c22 C (lim:=lim) V.T V.K.ok (fun x hx=>⟨(V.K.xs x hx).1,(V.K.xs x hx).2 _ V.K.z⟩) c (V.n tb (.inl rfl)) (fun b hb=>V.n b (.inr (.inl hb))) ha R M).out;refine PostV.of e ⟨rfl,⟨T',⟨⟨none,none,rfl⟩,fun _=>rfl⟩,KV.fire C V.K hF hR M,?_⟩,fun j _ j2=>f j (fun e=>j2 (.inl e)) (fun e=>j2 (.inr (.inl e))),?_,by omega⟩
 ·rintro j (h | h | h)
  ·exact V.n j (.inl h)
  ·exact V.n j (.inr (.inl h))
  ·cases h
 ·rintro j (h | h | h)
  ·exact .inl (.inl h)
  ·exact .inl (.inr (.inl h))
  ·cases h
theorem TV.clock {Z:Option ZN}{t:TM}{tb:Nat}{X:Hp}(V:TV E H0 F Z t tb X)(hX:∀j,F j->j<X.length)(ha:t.act=true)(hlim:lim<=tb){R:Int}(hR:i64r R)(M:Int)(j zd:Bool) :
  PostV (evI E lim (.func 26) [.pointer (some ⟨tb,0,none⟩),.agg #[.int .i64 R,.int .i64 M],zv Z,.bool j,.bool zd] X) fun v X'=>v=undef/\∃n1 n2,TStep E H0 F Z t tb ((t.clk R j n1).zon R Z zd n2) X X':=by
 obtain⟨v,X',e,rfl,l1,f,n1,n2,T',W',b'⟩:=(c26 C (lim:=lim) V.T V.W ha hlim R M Z j zd).out;have rb:((t.clk R j n1).zon R Z zd n2).rb=t.rb:=by unfold TM.zon TM.clk; split<;>split<;>rfl
 have wb:((t.clk R j n1).zon R Z zd n2).wb=n2:=by unfold TM.zon; split<;>rfl
 have m:∀i,tm ((t.clk R j n1).zon R Z zd n2) tb i->tm t tb i\/X.length<=i:=fun i hi=>by
  rcases hi with h | h | h
  ·exact .inl (.inl h)
  ·exact .inl (.inr (.inl (by rw[<- rb,h])))
  ·rw[wb] at h;rcases b' with b' | ⟨b,b',l⟩
   ·exact .inl (.inr (.inr (by rw[<- b',h])))
   ·rw[h] at b'
    injection b' with b'
    exact .inr (by omega)
 refine PostV.of e ⟨rfl,n1,n2,⟨T',W',?_,fun i hi hF=>?_⟩,fun i i1 i2=>f i i1 (fun e=>i2 (.inl e)) (fun e=>i2 (.inr (.inl e))) (fun e=>i2 (.inr (.inr e))),m,l1⟩
 ·have K1:KV E H0 F Z (t.clk R j n1).k (t.clk R j n1).xs:=by
   unfold TM.clk;split
   ·exact V.K.map V.K.ok rfl V.K.z fun x hx=>jump_ok (V.K.xs x hx).1 hR
   ·exact V.K
  generalize t.clk R j n1=t1 at K1;unfold TM.zon;split
  ·exact⟨⟨K1.ok.late,K1.ok.acc,K1.ok.st,K1.ok.ac,K1.ok.up,K1.ok.dn⟩,K1.l,.inr rfl,K1.xs⟩
  ·exact K1
 ·rcases m i hi with h | h
  ·exact V.n i h hF
  ·have:=hX i hF; omega
theorem DV.start {Z:Option ZN}{d:DK}{db:Nat}{X:Hp}(V:DV E H0 F Z d db X)(ha:d.act=false)(hlim:lim<=db){R M S s:Int}(hR:i64r R)(hM:i64r M)(hS:i64r S)(hs:i64r s)(S0:Int){z:Option ZN}(hz:Zo Z z) :
  PostV (evI E lim (.func 30) [.pointer (some ⟨db,0,none⟩),.agg #[.int .i64 R,.int .i64 M],.agg #[.int .i64 S0,.int .i64 S],.int .i64 s,zv z] X) fun v X'=>v=.int .i64 0/\DStep E H0 F Z d db (d.start R M S s z) X X':=by
 obtain⟨v,X',e,rfl,D',f,l⟩:=(c30 C (lim:=lim) V.D ha hlim R M S0 S s z).out;exact PostV.of e ⟨rfl,⟨D',V.K.map ⟨V.K.ok.late,V.K.ok.acc,hS,hM,V.K.ok.up,V.K.ok.dn⟩ rfl hz fun x hx=>start_ok2 (V.K.xs x hx).1 hR hs,V.n⟩,f,rfl,l⟩
theorem DV.on {Z:Option ZN}{d:DK}{db:Nat}{X:Hp}(V:DV E H0 F Z d db X)(ha:d.act=true)(R M S0 S s:Int)(z:Option ZN) :
  PostV (evI E lim (.func 30) [.pointer (some ⟨db,0,none⟩),.agg #[.int .i64 R,.int .i64 M],.agg #[.int .i64 S0,.int .i64 S],.int .i64 s,zv z] X) fun v X'=>v=.int .i64 4/\DStep E H0 F Z d db d X X' :=
 PostV.of (c30_on C V.D ha R M S0 S s z) ⟨rfl,⟨V.D.of fun j hj=>get_lt hj,V.K,V.n⟩,fun j hj _ _=>get_lt hj,rfl,by simp⟩
theorem DV.put {Z:Option ZN}{d d':DK}{db:Nat}{X:Hp}(V:DV E H0 F Z d db X)(h1:d'.r=d.r)(h2:d'.ys=d.ys)(h3:d'.k.acc=d'.c.acc)(hk:d'.k.Ok)(hl:d'.k.late=d.k.late)(hz:d'.k.z=d.k.z):DStep E H0 F Z d db d' X (X.set db (.cells true d'.cs)) :=
 ⟨⟨V.D.put h1 h2 h3,⟨hk,by rw[hl]; exact V.K.l,by rw[hz]; exact V.K.z,by rw[h2]; exact V.K.xs⟩,by rw[h1]; exact V.n⟩,fun j _ j2 _=>set_ne (Ne.symm j2),h1,by simp⟩
theorem DV.fire {Z:Option ZN}{d:DK}{db:Nat}{X:Hp}(V:DV E H0 F Z d db X)(c:Ctx H0 F X)(hF:∀j,F j->j<H0.length)(ha:d.act=true){R:Int}(hR:0<=R/\R<=9223372036854775807)(M:Int) :
  PostV (evI E lim (.func 33) [.pointer (some ⟨db,0,none⟩),.agg #[.int .i64 R,.int .i64 M]] X) fun v X'=>v=fireR (d.out E H0 R M).head?/\DStep E H0 F Z d db (d.fire E H0 R M) X X':=by
 obtain⟨v,X',e,rfl,l1,D',f⟩:=(c33 C (lim:=lim) V.D V.K.ok (fun x hx=>⟨(V.K.xs x hx).1,(V.K.xs x hx).2 _ V.K.z⟩) c V.n.2 ha R M).out;exact PostV.of e ⟨rfl,⟨D',KV.fire C V.K hF hR M,V.n⟩,f,rfl,by omega⟩
theorem DV.clock {Z:Option ZN}{d:DK}{db:Nat}{X:Hp}(V:DV E H0 F Z d db X)(ha:d.act=true)(hlim:lim<=db){R:Int}(hR:i64r R)(M:Int)(j zd:Bool) :
  PostV (evI E lim (.func 32) [.pointer (some ⟨db,0,none⟩),.agg #[.int .i64 R,.int .i64 M],zv Z,.bool j,.bool zd] X) fun v X'=>v=undef/\DStep E H0 F Z d db ((d.clkS R j).zonS R Z zd) X X':=by
 obtain⟨v,X',e,rfl,D',f,l1⟩:=(c32 C (lim:=lim) V.D ha hlim R M Z j zd).out;have hr:((d.clkS R j).zonS R Z zd).r=d.r:=by unfold DK.zonS DK.clkS; split<;>split<;>rfl
 refine PostV.of e ⟨rfl,⟨D',?_,by rw[hr]; exact V.n⟩,f,hr,l1⟩
 have K1:KV E H0 F Z (d.clkS R j).k (d.clkS R j).ys:=by
  unfold DK.clkS;split
  ·exact V.K.map V.K.ok rfl V.K.z fun x hx=>jump_ok (V.K.xs x hx).1 hR
  ·exact V.K
 generalize d.clkS R j=d1 at K1;unfold DK.zonS;split
 ·exact⟨⟨K1.ok.late,K1.ok.acc,K1.ok.st,K1.ok.ac,K1.ok.up,K1.ok.dn⟩,K1.l,.inr rfl,K1.xs⟩
 ·exact K1
end
section
open Tb
def TK.bare (x:TK):TG×Int×Int:=(x.raw,x.base,x.spent)
def oz1 (n:Int):Option Int:=if 0<=n then some n else none
structure Rel (t:TM)(d:DK):Prop where
 k:d.k=t.k
 act:d.act=t.act
 oc:d.c.oc=t.oc
 oz:d.c.oz=t.oz
 raw:t.xs.map TK.raw=d.ys.map TK.raw
 same:t.act=true->t.xs.map TK.bare=d.ys.map TK.bare
 ws:t.act=true->t.ws=wl (oz1 d.clk) (oz1 d.zon)
theorem map_rel {β γ:Type}{P:TK->β}{f g:TK->γ}:∀ {xs ys:List TK},xs.map P=ys.map P->(∀x∈xs,∀y∈ys,P x=P y->f x=g y)->xs.map f=ys.map g
 | [],[],_,_=>rfl
 | [],y::ys,h,_=>by simp at h
 | x::xs,[],h,_=>by simp at h
 | x::xs,y::ys,h,hf=>by
  simp only[List.map_cons,List.cons.injEq] at h ⊢;exact⟨hf x (List.mem_cons_self ..) y (List.mem_cons_self ..) h.1,map_rel h.2 fun a ha b hb=>hf a (List.mem_cons_of_mem _ ha) b (List.mem_cons_of_mem _ hb)⟩
theorem fm_rel {β γ:Type}{P:TK->β}{f g:TK->Option γ}:∀ {xs ys:List TK},xs.map P=ys.map P->(∀x∈xs,∀y∈ys,P x=P y->f x=g y)->xs.filterMap f=ys.filterMap g
 | [],[],_,_=>rfl
 | [],y::ys,h,_=>by simp at h
 | x::xs,[],h,_=>by simp at h
 | x::xs,y::ys,h,hf=>by
  simp only[List.map_cons,List.cons.injEq] at h;rw[List.filterMap_cons,List.filterMap_cons,hf x (List.mem_cons_self ..) y (List.mem_cons_self ..) h.1,fm_rel h.2 fun a ha b hb=>hf a (List.mem_cons_of_mem _ ha) b (List.mem_cons_of_mem _ hb)]
theorem bare_raw {xs ys:List TK}(h:xs.map TK.bare=ys.map TK.bare):xs.map TK.raw=ys.map TK.raw:=map_rel h fun x _ y _ e=>congrArg Prod.fst e
theorem Rel.start {t:TM}{d:DK}(H:Rel t d)(R M S s:Int)(z:Option ZN):Rel (t.start R M S s z) (d.start R M S s z):=by
 have hb:(t.xs.map (startX R s)).map TK.bare=(d.ys.map (startX R s)).map TK.bare:=by
  rw[List.map_map,List.map_map];refine map_rel H.raw fun x _ y _ e=>?_;show(x.raw,_,_)=(y.raw,_,_);rw[e]; rfl
 exact⟨by show({ d.k with st:=S,ac:=M,z:=z }:KN)={ t.k with st:=S,ac:=M,z:=z }; rw[H.k],rfl,H.oc,H.oz,bare_raw hb,fun _=>hb,fun _=>rfl⟩
theorem Rel.stop {t:TM}{d:DK}(H:Rel t d):Rel { t with act:=false } { d with act:=false }:=⟨H.k,rfl,H.oc,H.oz,H.raw,(fun h=>by cases h),fun h=>by cases h⟩
def DK.unit (d:DK)(up:Bool)(M:Int):DK:={ d with k:={ d.k with up:=if up=true then M else d.k.up,dn:=if up=true then d.k.dn else M } }
theorem Rel.unit {t:TM}{d:DK}(H:Rel t d)(up:Bool)(M:Int):Rel (t.unit up M) (d.unit up M):=⟨by show({ d.k with up:=if up=true then M else d.k.up,dn:=if up=true then d.k.dn else M }:KN)={ t.k with up:=if up=true then M else t.k.up,dn:=if up=true then t.k.dn else M }; rw[H.k],H.act,H.oc,H.oz,H.raw,H.same,H.ws⟩
theorem Rel.clk {t:TM}{d:DK}(H:Rel t d)(ha:t.act=true){R:Int}(hR:0<=R)(j:Bool)(n:Option Nat):Rel (t.clk R j n) (d.clkS R j)/\(t.clk R j n).act=true:=by
 cases j with
 | false=>exact⟨⟨H.k,H.act,H.oc,H.oz,H.raw,H.same,H.ws⟩,ha⟩
 | true =>
  have hb:(t.xs.map (jumpX R)).map TK.bare=(d.ys.map (jumpX R)).map TK.bare:=by
   rw[List.map_map,List.map_map];refine map_rel (H.same ha) fun x _ y _ e=>?_;obtain⟨e1,e2⟩:=Prod.mk.inj e;obtain⟨e2,e3⟩:=Prod.mk.inj e2;show(x.raw,min x.base R,x.spent)=(y.raw,min y.base R,y.spent);rw[e1,e2,e3]
  refine⟨⟨H.k,H.act,H.oc,H.oz,bare_raw hb,fun _=>hb,fun _=>?_⟩,ha⟩;show(if t.oc=true then wnew 7 R t.ws else t.ws)=wl (oz1 (if d.c.oc=true then R else d.clk)) (oz1 d.zon);rw[H.oc,H.ws ha];split
  ·rw[wnew7]; simp[oz1,hR]
  ·rfl
theorem Rel.zon {t:TM}{d:DK}(H:Rel t d)(ha:t.act=true){R:Int}(hR:0<=R)(Z:Option ZN)(zd:Bool)(n:Option Nat):Rel (t.zon R Z zd n) (d.zonS R Z zd):=by
 cases zd with
 | false=>exact⟨H.k,H.act,H.oc,H.oz,H.raw,H.same,H.ws⟩
 | true =>
  refine⟨by show({ d.k with z:=Z }:KN)={ t.k with z:=Z }; rw[H.k],H.act,H.oc,H.oz,H.raw,H.same,fun _=>?_⟩;show(if t.oz=true then wnew 8 R t.ws else t.ws)=wl (oz1 d.clk) (oz1 (if d.c.oz=true then R else d.zon));rw[H.oz,H.ws ha];split
  ·rw[wnew8]; simp[oz1,hR]
  ·rfl
theorem wl_opt (a b:Int):wl (oz1 a) (oz1 b)=opt1 a (7,a)++opt1 b (8,b):=by unfold oz1 opt1; split<;>split<;>rfl
theorem wl_opt2 (a b:Int):(wl (oz1 a) (oz1 b)).map (fun p=>(true,p.2,p.2))=opt1 a (true,a,a)++opt1 b (true,b,b):=by unfold oz1 opt1; split<;>split<;>rfl
theorem PW.new {E:Env}{H0:Hp}{F:Nat->Prop}{Z:Option ZN}{t:TM}{tb:Nat}{d:DK}{db nb:Nat}{B:Blk}{X:Hp}(P:PW E H0 F Z t tb d db nb B X)(y:Blk):PW E H0 F Z t tb d db X.length y (X++[y]):=by
 have K:=P.keep (X':=X++[y]) fun j hj _=>get_lt hj;exact⟨K.vt,K.vd,K.c,K.s,get_app0,fun h=>by have:=P.vt.T.tlt h; omega,fun h=>by have:=P.vd.D.dlt h; omega⟩
theorem PW.app {E:Env}{H0:Hp}{F:Nat->Prop}{Z:Option ZN}{t:TM}{tb:Nat}{d:DK}{db nb:Nat}{B:Blk}{X:Hp}(P:PW E H0 F Z t tb d db nb B X)(l:Hp):PW E H0 F Z t tb d db nb B (X++l):=P.keep fun j hj _=>get_lt hj
theorem wrow_sl {X:Hp}{lo:Nat}{fb:Option Nat}{L:List (Bool×Int×Int)}(W:WRow X lo fb L):∃pa ea,rv fb L.length 3=.slice pa L.length ea/\SlK 3 X pa L.length ea fun j=>wd (L.getD j default):=by
 cases fb with
 | none =>
  have e:L=[]:=W;rw[e];exact⟨none,0,rfl,fun h=>by cases h⟩
 | some b=>exact⟨some ⟨b,0,none⟩,3,rfl,wds_sl (m:=[]) (by rw[List.append_nil]; exact W.2)⟩
variable {E:Env}(C:Conds E){lim:Nat}{h H0:Hp}{F:Nat->Prop}
include C
theorem due_bare {Z:Option ZN}{k:KN}{xs ys:List TK}(K:KV E H0 F Z k xs)(K':KV E H0 F Z k ys)(hF:∀j,F j->j<H0.length){x y:TK}(hx:x∈xs)(hy:y∈ys)(e:x.bare=y.bare):dueK E H0 k x=dueK E H0 k y/\x.raw=y.raw/\x.base=y.base/\x.spent=y.spent:=by
 obtain⟨e1,e2⟩:=Prod.mk.inj e;obtain⟨e2,e3⟩:=Prod.mk.inj e2;have c0:Ctx H0 F H0:=⟨fun _ _=>rfl,hF⟩;exact⟨due_same C e1 e2 e3 (K.xs x hx).1.base (((K.xs x hx).2 _ K.z).at c0) (((K'.xs y hy).2 _ K.z).at c0),e1,e2,e3⟩
theorem Rel.wins {Z:Option ZN}{t:TM}{d:DK}(H:Rel t d)(ha:t.act=true)(K:KV E H0 F Z t.k t.xs)(K':KV E H0 F Z d.k d.ys)(hF:∀j,F j->j<H0.length):d.wins E H0=winL E H0 t:=by
 rw[H.k] at K';unfold DK.wins winL;rw[H.k,H.ws ha,wl_opt2];refine congrArg (·++_) (fm_rel (H.same ha) fun x hx y hy e=>?_).symm;have:=(due_bare C K K' hF hx hy e).1;unfold winK;rw[this]
theorem Rel.fire {Z:Option ZN}{t:TM}{d:DK}(H:Rel t d)(ha:t.act=true)(K:KV E H0 F Z t.k t.xs)(K':KV E H0 F Z d.k d.ys)(hF:∀j,F j->j<H0.length)(R M:Int):d.out E H0 R M=firedL E H0 t R M++t.ws/\Rel (t.fire E H0 R M) (d.fire E H0 R M):=by
 rw[H.k] at K'
 have hb:(t.xs.map (fireX E H0 t.k R M)).map TK.bare=(d.ys.map (fireX E H0 t.k R M)).map TK.bare:=by
  rw[List.map_map,List.map_map];refine map_rel (H.same ha) fun x hx y hy e=>?_;obtain⟨q1,q2,q3,q4⟩:=due_bare C K K' hF hx hy e;show TK.bare (fireX E H0 t.k R M x)=TK.bare (fireX E H0 t.k R M y);unfold fireX;rw[<- q1];cases dueK E H0 t.k x with
  | none=>exact e
  | some p =>
   obtain⟨r,n⟩:=p;cases r with
   | true =>
    simp only[if_true];split
    ·show(x.raw,_,x.spent)=(y.raw,_,y.spent);rw[q2,q4]
    ·exact e
   | false =>
    simp only[Bool.false_eq_true,if_false];split
    ·show(x.raw,x.base,_)=(y.raw,y.base,_);rw[q2,q3]
    ·exact e
 refine⟨?_,H.k,H.act,H.oc,H.oz,?_,fun _=>?_,fun _=>rfl⟩
 ·unfold DK.out firedL;rw[H.k,H.ws ha,wl_opt];refine congrArg (·++_) (fm_rel (H.same ha) fun x hx y hy e=>?_).symm;obtain⟨q1,q2,q3,q4⟩:=due_bare C K K' hF hx hy e;have q5:x.kind=y.kind:=congrArg TG.kind q2;unfold elaK elap;rw[q1,q5]
 ·show(t.xs.map (fireX E H0 t.k R M)).map TK.raw=(d.ys.map (fireX E H0 d.k R M)).map TK.raw;rw[H.k];exact bare_raw hb
 ·show(t.xs.map (fireX E H0 t.k R M)).map TK.bare=(d.ys.map (fireX E H0 d.k R M)).map TK.bare;rw[H.k];exact hb
theorem PW.wins {Z:Option ZN}{t:TM}{tb:Nat}{d:DK}{db nb:Nat}{B:Blk}{X:Hp}(P:PW E H0 F Z t tb d db nb B X)(H:Rel t d)(hF:∀j,F j->j<H0.length)(hlim:lim<=X.length) :
  ∃pa ea pb eb n X1 X2,evI E lim (.func 24) [.pointer (some ⟨tb,0,none⟩)] X=some (.slice pa n ea,X1)/\evI E lim (.func 36) [.pointer (some ⟨db,0,none⟩)] X1=some (.slice pb n eb,X2)/\evI E lim (.func 25) [.slice pa n ea,.slice pb n eb] X2=some (.bool true,X2)/\PW E H0 F Z t tb d db nb B X2:=by
 cases ha:t.act with
 | false =>
  have hd:d.act=false:=H.act.trans ha;exact⟨none,0,none,0,0,X,X,c24_off C P.vt.T.blk ha,c36_off C P.vd.D hd,c25 C (A:=[]) (fun h=>absurd h (Nat.lt_irrefl 0)) (fun h=>absurd h (Nat.lt_irrefl 0)) (by omega),P⟩
 | true =>
  have hd:d.act=true:=H.act.trans ha;obtain⟨v,X1,e24,fa,rfl,WA,o1,l1⟩:=(c24 C (lim:=lim) P.vt.T P.vt.K.ok (fun x hx=>⟨(P.vt.K.xs x hx).1,(P.vt.K.xs x hx).2 _ P.vt.K.z⟩) P.c ha hlim).out;have P1:=P.keep (X':=X1) fun j hj _=>o1 j hj;obtain⟨v,X2,e36,fb,rfl,WB,o2,l2⟩:=(c36 C (lim:=lim) P1.vd.D P1.vd.K.ok (fun x hx=>⟨(P1.vd.K.xs x hx).1,(P1.vd.K.xs x hx).2 _ P1.vd.K.z⟩) P1.c hd).out;have P2:=P1.keep (X':=X2) fun j hj _=>o2 j hj;rw[H.wins C ha P.vt.K P.vd.K hF] at e36 WB
  have las:(winL E H0 t).length<=2000:=by
   unfold winL;rw[List.length_append,List.length_map];have:=List.length_filterMap_le (winK E H0 t.k) t.xs;have:=P.vt.T.n;have:=P.vt.T.m;omega
  have WA2:WRow X2 X.length fa (winL E H0 t):=by
   cases fa with
   | none=>exact WA
   | some b=>exact⟨WA.1,(o2 b (lt_of_get WA.2)).trans WA.2⟩
  obtain⟨pa,ea,era,SA⟩:=wrow_sl WA2;obtain⟨pb,eb,erb,SB⟩:=wrow_sl WB;rw[era] at e24;rw[erb] at e36;exact⟨pa,ea,pb,eb,_,X1,X2,e24,e36,c25 C SA SB (by omega),P2⟩
end
section
open Tb
structure LD where
 kind:Int
 real:Int
 mono:Int
 stamp:Int
 b:Bool
 c:Bool
instance:Inhabited LD:=⟨⟨0,0,0,0,false,false⟩⟩
def LD.cs (x:LD):List Value:=[.int .u8 x.kind,.int .i64 x.real,.int .i64 x.mono,.int .i64 x.stamp,.bool x.b,.bool x.c]
structure LD.Ok (x:LD):Prop where
 real:i64r x.real
 mono:i64r x.mono
 stamp:i64r x.stamp
def NP (la:Option Addr)(ln le:Nat)(p:Option Addr)(tb db:Nat)(i:Nat)(g:Fr):Prop:=g.rd 1=.slice la ln le/\g.rd 5=.pointer p/\g.rd 7=.pointer (some ⟨tb,0,none⟩)/\g.rd 8=.pointer (some ⟨db,0,none⟩)/\g.rd 9=.int .i64 i
def PL (E:Env)(H0:Hp)(F:Nat->Prop)(Z:Option ZN)(lim tb db nb:Nat)(B:Blk)(X:Hp):Prop:=∃t d,PW E H0 F Z t tb d db nb B X/\Rel t d/\lim<=tb/\lim<=db
variable {E:Env}(C:Conds E){lim:Nat}{h H0:Hp}{F:Nat->Prop}
include C
theorem fireR_is (o:Option (Int×Int)):∃a b is,fireR o=.tuple #[.agg #[.int .u8 a,.int .i64 b],.bool is]:=by
 cases o with
 | none=>exact⟨0,0,false,rfl⟩
 | some p=>exact⟨p.1,p.2,true,rfl⟩
theorem half_ok {m:Int}(h:i64r m):i64r (m.tdiv 2)/\IntKind.i64.wrap (m.tdiv 2)=m.tdiv 2:=by
 unfold i64r at *
 have h1:-9223372036854775808<=m.tdiv 2/\m.tdiv 2<=9223372036854775807:=by
  rcases Int.le_total 0 m with hm | hm
  ·rw[Int.tdiv_eq_ediv_of_nonneg hm]; omega
  ·have e:m.tdiv 2=-((-m).tdiv 2):=by rw[Int.neg_tdiv,Int.neg_neg]
   rw[e,Int.tdiv_eq_ediv_of_nonneg (by omega)];omega
 exact⟨h1,wrap64 h1.1 h1.2⟩
theorem PW.start {Z:Option ZN}{t:TM}{tb:Nat}{d:DK}{db nb:Nat}{B:Blk}{X:Hp}(P:PW E H0 F Z t tb d db nb B X)(H:Rel t d)(lt:lim<=tb)(ld:lim<=db){R M S s:Int}(hR:i64r R)(hM:i64r M)(hS:i64r S)(hs:i64r s)(S0:Int){z:Option ZN}(hz:Zo Z z) :
  ∃e X1 X2 t' d',evI E lim (.func 20) [.pointer (some ⟨tb,0,none⟩),.agg #[.int .i64 R,.int .i64 M],.agg #[.int .i64 S0,.int .i64 S],.int .i64 s,zv z] X=some (.int .i64 e,X1)/\(∀j,j<X.length->¬ tm t tb j->X1[j]?=X[j]?)/\evI E lim (.func 30) [.pointer (some ⟨db,0,none⟩),.agg #[.int .i64 R,.int .i64 M],.agg #[.int .i64 S0,.int .i64 S],.int .i64 s,zv z] X1=some (.int .i64 e,X2)/\PW E H0 F Z t' tb d' db nb B X2/\Rel t' d':=by
 cases ha:t.act with
 | true =>
  obtain⟨v,X1,e1,rfl,S1⟩:=(P.vt.on C (lim:=lim) ha R M S0 S s z).out;have P1:=P.tstep S1;obtain⟨v,X2,e2,rfl,S2⟩:=(P1.vd.on C (lim:=lim) (H.act.trans ha) R M S0 S s z).out;exact⟨4,X1,X2,t,d,e1,S1.f,e2,P1.dstep S2,H⟩
 | false =>
  obtain⟨v,X1,e1,rfl,S1⟩:=(P.vt.start C (lim:=lim) ha lt hR hM hS hs S0 hz).out;have P1:=P.tstep S1;obtain⟨v,X2,e2,rfl,S2⟩:=(P1.vd.start C (lim:=lim) (H.act.trans ha) ld hR hM hS hs S0 hz).out;exact⟨0,X1,X2,_,_,e1,S1.f,e2,P1.dstep S2,H.start R M S s z⟩
theorem PW.clock {Z:Option ZN}{t:TM}{tb:Nat}{d:DK}{db nb:Nat}{B:Blk}{X:Hp}(P:PW E H0 F Z t tb d db nb B X)(H:Rel t d)(lt:lim<=tb)(ld:lim<=db){R:Int}(hR:0<=R/\R<=9223372036854775807)(M:Int)(j zd:Bool) :
  ∃X1 X2 t' d',evI E lim (.func 26) [.pointer (some ⟨tb,0,none⟩),.agg #[.int .i64 R,.int .i64 M],zv Z,.bool j,.bool zd] X=some (undef,X1)/\X1[nb]?=some B/\evI E lim (.func 32) [.pointer (some ⟨db,0,none⟩),.agg #[.int .i64 R,.int .i64 M],zv Z,.bool j,.bool zd] X1=some (undef,X2)/\PW E H0 F Z t' tb d' db nb B X2/\Rel t' d':=by
 have hR':i64r R:=⟨by omega,hR.2⟩;cases ha:t.act with
 | true =>
  obtain⟨v,X1,e1,rfl,n1,n2,S1⟩:=(P.vt.clock C (lim:=lim) P.c.L ha lt hR' M j zd).out;have P1:=P.tstep S1;obtain⟨v,X2,e2,rfl,S2⟩:=(P1.vd.clock C (lim:=lim) (H.act.trans ha) ld hR' M j zd).out;obtain⟨H1,a1⟩:=H.clk ha hR.1 j n1;exact⟨X1,X2,_,_,e1,P1.now,e2,P1.dstep S2,H1.zon a1 hR.1 Z zd n2⟩
 | false =>
  have P1:=P.app [.cells true [.int .i64 R,.int .i64 M]];exact⟨_,_,t,d,c26_off C P.vt.T.blk ha R M Z j zd,P1.now,c32_off C P1.vd.D (H.act.trans ha) R M Z j zd,P1.app _,H⟩
theorem PW.fire {Z:Option ZN}{t:TM}{tb:Nat}{d:DK}{db nb:Nat}{B:Blk}{X:Hp}(P:PW E H0 F Z t tb d db nb B X)(H:Rel t d)(hF:∀j,F j->j<H0.length){R:Int}(hR:0<=R/\R<=9223372036854775807)(M:Int) :
  ∃o X1,evI E lim (.func 22) [.pointer (some ⟨tb,0,none⟩),.agg #[.int .i64 R,.int .i64 M]] X=some (fireR o,X1)/\X1[nb]?=some B/\∀y,∃X2 t' d',evI E lim (.func 33) [.pointer (some ⟨db,0,none⟩),.agg #[.int .i64 R,.int .i64 M]] (X1++[y])=some (fireR o,X2)/\X2[X1.length]?=some y/\PW E H0 F Z t' tb d' db nb B X2/\Rel t' d':=by
 cases ha:t.act with
 | true =>
  obtain⟨v,X1,e1,rfl,S1⟩:=(P.vt.fire C (lim:=lim) P.c hF ha hR M).out;have P1:=P.tstep S1;refine⟨_,X1,e1,P1.now,fun y=>?_⟩;have P2:=P1.app [y];obtain⟨v,X2,e2,rfl,S2⟩:=(P2.vd.fire C (lim:=lim) P2.c hF (H.act.trans ha) hR M).out;obtain⟨q1,q2⟩:=H.fire C ha P.vt.K P.vd.K hF R M;rw[q1] at e2;exact⟨X2,_,_,e2,(fr_dm S2.f (by simp) (fun h=>by have:=P1.vd.D.dlt h; omega)).trans get_app0,P2.dstep S2,q2⟩
 | false =>
  refine⟨none,X,c22_off C P.vt.T.blk ha R M,P.now,fun y=>?_⟩;have P2:=P.app [y];exact⟨_,t,d,c33_off C P2.vd.D (H.act.trans ha) R M,get_app0,P2,H⟩
theorem PW.other {Z:Option ZN}{t t' t1:TM}{tb tb':Nat}{d:DK}{db nb:Nat}{B:Blk}{X X':Hp}(P:PW E H0 F Z t' tb' d db nb B X)(Q:PW E H0 F Z t tb d db nb B X)(hd:∀j,tm t' tb' j->¬ tm t tb j)(S:TStep E H0 F Z t tb t1 X X'):PW E H0 F Z t' tb' d db nb B X'/\PW E H0 F Z t1 tb d db nb B X'/\∀j,tm t' tb' j->¬ tm t1 tb j:=by
 refine⟨P.keep fun j hj h=>S.f j hj fun ht=>?_,Q.tstep S,fun j hj h=>?_⟩
 ·rcases h with h | h | h | rfl
  ·exact hd j h ht
  ·exact Q.s j ht h
  ·exact Q.vt.n j ht h
  ·exact Q.nt ht
 ·rcases S.m j h with h | h
  ·exact hd j hj h
  ·have:=P.vt.T.tlt hj; omega
theorem PW.copy {Z:Option ZN}{t:TM}{tb:Nat}{d:DK}{db nb:Nat}{B:Blk}{X:Hp}(P:PW E H0 F Z t tb d db nb B X)(H:Rel t d)(hF:∀j,F j->j<H0.length)(lt:lim<=tb){R M:Int}(hR:0<=R/\R<=9223372036854775807)(hM:i64r M) :
  ∃tb' X1 e X2 X3 o X4 X5,evI E lim (.func 34) [.pointer (some ⟨tb,0,none⟩)] X=some (.pointer (some ⟨tb',0,none⟩),X1)/\X1[nb]?=some B/\evI E lim (.func 20) [.pointer (some ⟨tb,0,none⟩),.agg #[.int .i64 R,.int .i64 M],.agg #[.int .i64 R,.int .i64 M],.int .i64 (-1),.pointer none] X1=some (.int .i64 e,X2)/\X2[nb]?=some B /\
   evI E lim (.func 27) [.pointer (some ⟨tb,0,none⟩),.bool true,.agg #[.int .i64 R,.int .i64 M]] X2=some (undef,X3)/\X3[nb]?=some B/\evI E lim (.func 22) [.pointer (some ⟨tb,0,none⟩),.agg #[.int .i64 R,.int .i64 M]] X3=some (fireR o,X4)/\evI E lim (.func 31) [.pointer (some ⟨tb,0,none⟩)] X4=some (undef,X5) /\
   ∃t',PW E H0 F Z t' tb' d db nb B X5/\Rel t' d/\lim<=tb':=by
 have hR':i64r R:=⟨by omega,hR.2⟩;have lx:=lt_of_get P.vt.T.blk;obtain⟨v,X1,e34,tb',rb',wb',rfl,T',f,l1,l2,l3,l4⟩:=(c34 C (lim:=lim) P.vt.T (by omega)).out;have Q1:=P.keep (X':=X1) fun j hj _=>f j hj
 have big:∀j,tm ({ t with rb:=rb',wb:=wb' }:TM) tb' j->X.length<=j:=fun j hj=>by
  rcases hj with rfl | h | h
  ·exact l1
  ·exact l2 j h
  ·exact l3 j h
 have P1:PW E H0 F Z { t with rb:=rb',wb:=wb' } tb' d db nb B X1:=⟨⟨T',⟨P.vt.W.sh,fun h=>l4 (P.vt.W.no h) h⟩,P.vt.K,fun j hj hj2=>by have:=big j hj; have:=P.c.L j hj2; omega⟩,Q1.vd,Q1.c,fun j hj hj2=>by have:=big j hj; have:=P.vd.D.dlt hj2; omega,Q1.now,fun h=>by have:=big nb h; have:=lt_of_get P.now; omega,P.nd⟩;have d1:∀j,tm ({ t with rb:=rb',wb:=wb' }:TM) tb' j->¬ tm t tb j:=fun j hj hj2=>by have:=big j hj; have:=P.vt.T.tlt hj2; omega
 have H1:Rel { t with rb:=rb',wb:=wb' } d:=⟨H.k,H.act,H.oc,H.oz,H.raw,H.same,H.ws⟩
 have st:∃e X2 t2,evI E lim (.func 20) [.pointer (some ⟨tb,0,none⟩),.agg #[.int .i64 R,.int .i64 M],.agg #[.int .i64 R,.int .i64 M],.int .i64 (-1),.pointer none] X1=some (.int .i64 e,X2)/\TStep E H0 F Z t tb t2 X1 X2/\t2.act=true:=by
  cases ha:t.act with
  | true =>
   obtain⟨v,X2,e1,rfl,S1⟩:=(Q1.vt.on C (lim:=lim) ha R M R M (-1) none).out;exact⟨4,X2,t,e1,S1,ha⟩
  | false =>
   obtain⟨v,X2,e1,rfl,S1⟩:=(Q1.vt.start C (lim:=lim) ha lt hR' hM hM (s:=-1) (by unfold i64r; omega) R (z:=none) (.inl rfl)).out;exact⟨0,X2,_,e1,S1,rfl⟩
 obtain⟨e,X2,t2,e20,S1,a2⟩:=st;obtain⟨P2,Q2,d2⟩:=P1.other C Q1 d1 S1;obtain⟨v,X3,e27,rfl,S2⟩:=(Q2.vt.unit C (lim:=lim) true R hM).out;obtain⟨P3,Q3,d3⟩:=P2.other C Q2 d2 S2;obtain⟨v,X4,e22,rfl,S3⟩:=(Q3.vt.fire C (lim:=lim) Q3.c hF a2 hR M).out;obtain⟨P4,Q4,d4⟩:=P3.other C Q3 d3 S3;obtain⟨v,X5,e31,rfl,S4⟩:=(Q4.vt.stop C (lim:=lim)).out;obtain⟨P5,-,-⟩:=P4.other C Q4 d4 S4;exact⟨tb',X1,e,X2,X3,_,X4,X5,e34,P1.now,e20,P2.now,e27,P3.now,e22,e31,_,P5,H1,by omega⟩
theorem loop7 {Z:Option ZN}{p:Option Addr}(hp:zv Z=.pointer p)(hF:∀j,F j->j<H0.length){la:Option Addr}{ln le:Nat}{cv:Nat->LD}(S:SlK 6 H0 la ln le fun j=>(cv j).cs)(hcv:∀j,j<ln->(cv j).Ok)(SF:0<ln->∀A,la=some A->F A.block)(hln:ln<=40)
  {tb db nb:Nat}{B:Blk}{X0:Hp}(V0:PL E H0 F Z lim tb db nb B X0){f:Fr}(f0:NP la ln le p tb db 0 f){P:AX->Fr->Hp->Prop}
  (hP:∀f' X',Ctx H0 F X'->P (.exit 0) f' X')(hR:∀f' X',Ctx H0 F X'->f'.rd 4=.bool true->P .ret f' X'):Post (evK E lim (.loop lp7_0) f X0) P:=by
 have hE:=C.hE;refine loop_post hE.mono (fun q g X=>∃(i tb nb:Nat) (B:Blk),i<=ln/\PL E H0 F Z lim tb db nb B X/\NP la ln le p tb db i g/\ln-i=q) ?_ ln _ _ ⟨0,tb,nb,B,Nat.zero_le _,V0,f0,rfl⟩;clear f0 V0 tb nb B;rintro q g X ⟨i,tb,nb,B,hi,V,⟨g1,g5,g7,g8,g9⟩,hq⟩
 by_cases hlt:(i:Int)<ln
 case neg =>
  simp only[push_cast,lp7_0,g1,g9,hlt,simprocAttr];obtain⟨t,d,V,-⟩:=V;exact hP _ _ V.c
 have hi':i<ln:=by omega
 have a2:(0<=(i:Int))=True:=by simp
 have a8:=wn1 (i:=i);unfold lp7_0;refine post_mid hE.mono (fun g X'=>X'=X/\NP la ln le p tb db i g) (by simp only[push_cast,NP,g1,g5,g7,g8,g9,hlt,simprocAttr]) ?_;clear g1 g5 g7 g8 g9 g;rintro g X' ⟨rfl,g1,g5,g7,g8,g9⟩;refine post_mid hE.mono (fun g X=>∃tb nb B,PL E H0 F Z lim tb db nb B X/\NP la ln le p tb db i g) ?_ ?_
 case refine_2 =>
  clear V g1 g5 g7 g8 g9 g tb nb B;rintro g X ⟨tb,nb,B,V,g1,g5,g7,g8,g9⟩;simp only[push_cast,g9,a8,simprocAttr];exact⟨_,(by omega:ln-(i+1)<q),i+1,tb,nb,B,by omega,V,⟨by simp[g1],by simp[g5],by simp[g7],by simp[g8],by simp⟩,rfl⟩
 refine post_blk hE.mono ?_;obtain⟨t,d,VV,Rl,lt,ld⟩:=V;obtain⟨b,o,own,cs,rfl,rfl,h1,h2,h3⟩:=S (by omega);have h1':X'[b]?=some (.cells own cs):=(VV.c.R b (SF (by omega) _ rfl)).trans h1;have h4:=h3 i hi';have h5:=mul_le_in (k:=6) hi';have h6:(o+i*6+6<=cs.length)=True:=eq_true (by omega);have ok:=hcv i hi';have h4:(cs.drop (o+i*6)).take 6=(cv i).cs:=h4;generalize cv i=x at *;simp only[LD.cs] at h4;obtain⟨cb,hcb⟩:∃cb,cb=X'.length:=⟨_,rfl⟩;refine post_mid hE.mono (fun g W=>X'++[.cells true x.cs]=W/\NP (some ⟨b,o,none⟩) ln 6 p tb db i g/\g.rd 10=.pointer (some ⟨cb,0,none⟩)) ?_ ?_
 ·simp only[push_cast,NP,g1,g5,g7,g8,g9,a2,h1',h4,h6,hlt,hi',LD.cs,hcb,simprocAttr]
 clear g1 g5 g7 g8 g9 g;rintro g W ⟨hW,⟨g1,g5,g7,g8,g9⟩,g10⟩;have V:=VV.new (.cells true x.cs);rw[hW,<- hcb] at V;clear hW h1' hcb VV
 by_cases hneg:x.real<0
 ·have xn:=V.now;simp only[LD.cs] at xn;have e17:=c17 C (lim:=lim) (h:=W);simp only[push_cast,g1,g5,g7,g8,g9,g10,xn,hneg,e17,simprocAttr];exact hR _ _ V.c (by simp)
 refine post_mid hE.mono (fun g X=>W=X/\NP (some ⟨b,o,none⟩) ln 6 p tb db i g/\g.rd 10=.pointer (some ⟨cb,0,none⟩)) ?_ ?_
 ·have xn:=V.now;simp only[LD.cs] at xn;simp only[push_cast,NP,g1,g5,g7,g8,g9,g10,xn,hneg,simprocAttr]
 clear g1 g5 g7 g8 g9 g10 g;rintro g X ⟨rfl,⟨g1,g5,g7,g8,g9⟩,g10⟩;have R0:0<=x.real/\x.real<=9223372036854775807:=⟨by omega,ok.real.2⟩;refine post_mid hE.mono (fun g X=>∃tb nb B,PL E H0 F Z lim tb db nb B X/\NP (some ⟨b,o,none⟩) ln 6 p tb db i g) ?_ ?_
 case refine_2 =>
  clear V Rl lt g1 g5 g7 g8 g9 g10 g tb nb t d ld;rintro g X ⟨tb,nb,B,⟨t,d,V,Rl,lt,ld⟩,g1,g5,g7,g8,g9⟩;obtain⟨pa,ea,pb,eb,n,X1,X2,e24,e36,e25,V2⟩:=V.wins C (lim:=lim) Rl hF (by have:=lt_of_get V.vt.T.blk; omega);have e35:=c35 C (lim:=lim) (h:=X) V.vt.T.blk;have hd:=V.vd.D.blk;have hact:=Rl.act;simp only[DK.cs,CD.cs,List.cons_append,List.nil_append,hact] at hd;have q:eqV false [LK.bool] (.bool t.act) (.bool t.act)=some true:=by simp[eqV,lksEq,lkEq]
  simp only[push_cast,g1,g5,g7,g8,g9,e35,hd,q,e24,e36,e25,simprocAttr];exact⟨tb,nb,B,⟨t,d,V2,Rl,lt,ld⟩,⟨by simp[g1],by simp[g5],by simp[g7],by simp[g8],by simp[g9]⟩⟩
 refine post_mid hE.mono (fun g X=>W=X/\NP (some ⟨b,o,none⟩) ln 6 p tb db i g/\g.rd 10=.pointer (some ⟨cb,0,none⟩)/\g.rd 57=.int .u8 x.kind) ?_ ?_
 ·have xn:=V.now;simp only[LD.cs] at xn;simp only[push_cast,NP,g1,g5,g7,g8,g9,g10,xn,simprocAttr]
 clear g1 g5 g7 g8 g9 g10 g;rintro g X ⟨rfl,⟨g1,g5,g7,g8,g9⟩,g10,g57⟩;refine post_blk hE.mono ?_;have xn:=V.now;simp only[LD.cs] at xn;have xn':∀l,(W++l)[cb]?=_:=fun l=>get_old xn;cases hk0:(x.kind==0) with
 | true =>
  obtain⟨hS,hw⟩:=half_ok C ok.mono;have V1:=V.app [.cells true [.int .i64 0,.int .i64 (x.mono.tdiv 2)]];have hs0:(W++[Blk.cells true [.int .i64 0,.int .i64 (x.mono.tdiv 2)]])[W.length]?=some (.cells true [.int .i64 0,.int .i64 (x.mono.tdiv 2)]):=get_app0;cases hb:x.b with
  | true =>
   obtain⟨e,X1,X2,t',d',e20,f1,e30,V2,R2⟩:=V1.start C Rl lt ld ok.real ok.mono hS ok.stamp 0 (z:=none) (.inl rfl);have y1:=(f1 cb (lt_of_get V1.now) V1.nt).trans V1.now;have y2:=(f1 W.length (by simp) (fun h=>by have:=V.vt.T.tlt h; omega)).trans hs0;simp only[LD.cs,hb] at y1;rw[hb] at xn xn';simp only[zv] at e20 e30;simp only[push_cast,g1,g5,g7,g8,g9,g10,g57,hk0,xn,xn',hw,e20,y1,y2,e30,sureL,simprocAttr];exact⟨tb,cb,_,⟨t',d',V2,R2,lt,ld⟩,⟨by simp[g1],by simp[g5],by simp[g7],by simp[g8],by simp[g9]⟩⟩
  | false =>
   obtain⟨e,X1,X2,t',d',e20,f1,e30,V2,R2⟩:=V1.start C Rl lt ld ok.real ok.mono hS ok.stamp 0 (z:=Z) (.inr rfl);have y1:=(f1 cb (lt_of_get V1.now) V1.nt).trans V1.now;have y2:=(f1 W.length (by simp) (fun h=>by have:=V.vt.T.tlt h; omega)).trans hs0;simp only[LD.cs,hb] at y1;rw[hb] at xn xn';simp only[hp] at e20 e30;simp only[push_cast,g1,g5,g7,g8,g9,g10,g57,hk0,xn,xn',hw,e20,y1,y2,e30,sureL,simprocAttr];exact⟨tb,cb,_,⟨t',d',V2,R2,lt,ld⟩,⟨by simp[g1],by simp[g5],by simp[g7],by simp[g8],by simp[g9]⟩⟩
 | false =>
 cases hk1:(x.kind==1) with
 | true =>
  obtain⟨v,X1,e31,rfl,S1⟩:=(V.vt.stop C (lim:=lim)).out;have V1:=V.tstep S1;have S2:=DV.put C V1.vd (d':={ d with act:=false }) rfl rfl V1.vd.D.acc V1.vd.K.ok rfl rfl;have hd:=V1.vd.D.blk;obtain⟨Y,hY⟩:∃Y,Y=({ d with act:=false }:DK).cs:=⟨_,rfl⟩;rw[<- hY] at S2;simp only[DK.cs,CD.cs,List.cons_append,List.nil_append] at hd hY;simp only[push_cast,g1,g5,g7,g8,g9,g10,g57,hk0,hk1,e31,hd,simprocAttr];rw[<- hY];exact⟨tb,cb,_,⟨_,_,V1.dstep S2,Rl.stop,lt,ld⟩,⟨by simp[g1],by simp[g5],by simp[g7],by simp[g8],by simp[g9]⟩⟩
 | false =>
 cases hk2:(x.kind==2) with
 | true =>
  obtain⟨v,X1,e27,rfl,S1⟩:=(V.vt.unit C (lim:=lim) x.b x.real ok.mono).out;have V1:=V.tstep S1;have y1:=V1.now;simp only[LD.cs] at y1
  have S2:=DV.put C V1.vd (d':=d.unit x.b x.mono) rfl rfl V1.vd.D.acc (by
   have K:=V1.vd.K.ok;cases x.b with
   | true=>exact⟨K.late,K.acc,K.st,K.ac,ok.mono,K.dn⟩
   | false=>exact⟨K.late,K.acc,K.st,K.ac,K.up,ok.mono⟩) rfl rfl
  have hd:=V1.vd.D.blk;obtain⟨Y,hY⟩:∃Y,Y=(d.unit x.b x.mono).cs:=⟨_,rfl⟩;rw[<- hY] at S2;have fin:PL E H0 F Z lim tb db cb (.cells true x.cs) (X1.set db (.cells true Y)):=⟨_,_,V1.dstep S2,Rl.unit x.b x.mono,lt,ld⟩;cases hb:x.b with
  | true =>
   rw[hb] at xn xn' y1 e27 hY;simp only[DK.unit,DK.cs,CD.cs,List.cons_append,List.nil_append,if_true] at hd hY;simp only[push_cast,g1,g5,g7,g8,g9,g10,g57,hk0,hk1,hk2,xn,e27,y1,hd,sureL,simprocAttr];rw[<- hY];exact⟨tb,cb,_,fin,⟨by simp[g1],by simp[g5],by simp[g7],by simp[g8],by simp[g9]⟩⟩
  | false =>
   rw[hb] at xn xn' y1 e27 hY;simp only[DK.unit,DK.cs,CD.cs,List.cons_append,List.nil_append,Bool.false_eq_true,if_false] at hd hY;simp only[push_cast,g1,g5,g7,g8,g9,g10,g57,hk0,hk1,hk2,xn,e27,y1,hd,sureL,simprocAttr];rw[<- hY];exact⟨tb,cb,_,fin,⟨by simp[g1],by simp[g5],by simp[g7],by simp[g8],by simp[g9]⟩⟩
 | false =>
 cases hk3:(x.kind==3) with
 | true =>
  obtain⟨X1,X2,t',d',e26,y1,e32,V2,R2⟩:=V.clock C (lim:=lim) Rl lt ld R0 x.mono x.b x.c;simp only[LD.cs] at y1;rw[hp] at e26 e32;simp only[push_cast,g1,g5,g7,g8,g9,g10,g57,hk0,hk1,hk2,hk3,xn,e26,y1,e32,sureL,simprocAttr];exact⟨tb,cb,_,⟨t',d',V2,R2,lt,ld⟩,⟨by simp[g1],by simp[g5],by simp[g7],by simp[g8],by simp[g9]⟩⟩
 | false =>
 cases hk4:(x.kind==4) with
 | true =>
  obtain⟨ff,X1,e22,y1,e33⟩:=V.fire C (lim:=lim) Rl hF R0 x.mono;obtain⟨a,e,is,hff⟩:=fireR_is C ff;rw[hff] at e22 e33;obtain⟨X2,t',d',e33,y2,V2,R2⟩:=e33 (.cells true [.int .u8 a,.int .i64 e]);have y3:=V2.now;have y1':∀l,(X1++l)[cb]?=_:=fun l=>get_old y1;have y2':∀l,(X2++l)[X1.length]?=_:=fun l=>get_old y2;simp only[LD.cs] at y1 y1';have q1:eqV true [LK.int .u8,LK.int .i64] (.agg #[.int .u8 a,.int .i64 e]) (.agg #[.int .u8 a,.int .i64 e])=some true:=by simp[eqV,lksEq,lkEq]
  have q2:eqV false [LK.bool] (.bool is) (.bool is)=some true:=by simp[eqV,lksEq,lkEq]
  simp only[push_cast,g1,g5,g7,g8,g9,g10,g57,hk0,hk1,hk2,hk3,hk4,xn,e22,y1,y1',e33,y2,y2',q1,q2,sureL,simprocAttr];exact⟨tb,cb,_,⟨t',d',V2.app _,R2,lt,ld⟩,⟨by simp[g1],by simp[g5],by simp[g7],by simp[g8],by simp[g9]⟩⟩
 | false =>
 cases hk5:(x.kind==5) with
 | true =>
  obtain⟨tb',X1,e,X2,X3,ff,X4,X5,e34,y1,e20,y2,e27,y3,e22,e31,t',V2,R2,lt'⟩:=V.copy C (lim:=lim) Rl hF lt R0 ok.mono;simp only[LD.cs] at y1 y2 y3;simp only[push_cast,g1,g5,g7,g8,g9,g10,g57,hk0,hk1,hk2,hk3,hk4,hk5,xn,e34,y1,e20,y2,e27,y3,e22,e31,sureL,simprocAttr];exact⟨tb',cb,_,⟨t',d,V2,R2,lt',ld⟩,⟨by simp[g1],by simp[g5],by simp,by simp[g8],by simp[g9]⟩⟩
 | false =>
  simp only[push_cast,g1,g5,g7,g8,g9,g10,g57,hk0,hk1,hk2,hk3,hk4,hk5,simprocAttr];exact⟨tb,cb,_,⟨t,d,V,Rl,lt,ld⟩,⟨by simp[g1],by simp[g5],by simp[g7],by simp[g8],by simp[g9]⟩⟩
end
section
open Tb
theorem askf_of {E:Env}{X:Hp}{Z:Option ZN}{lo0:Nat}(zi:zin Z X)(zs:zshut Z X)(zl:∀b,zmem Z b->b<lo0){x:TK}{tb rb:Nat}(S:Spx E X x tb rb)(hl:lo0<=tb){F:Nat->Prop}(hF1:∀j,tb<j->j<rb->F j)(hF2:∀j,j<lo0->F j):∀z,Zo Z z->AskF E X F z x:=by
 intro z hz h1k;obtain⟨lo,hi,a1,a2,a3,a4,a5,a6⟩:=S;have f1:∀j,lo<=j->j<hi->F j:=fun j j1 j2=>hF1 j (by omega) (by omega);have f2:∀i,i<6->∀A,(x.spec.at i).a=some A->F A.block:=fun i hi A hA=>f1 _ (a4 i hi A hA).1 (a4 i hi A hA).2;rcases hz with rfl | rfl
 ·exact⟨lo,hi,⟨a1,a2,a3,(fun Y hY=>by cases hY),(fun Y hY=>by cases hY),fun b hb=>by cases hb⟩,f1,f2,fun b hb=>by cases hb⟩
 ·exact⟨lo,hi,⟨a1,a2,a3,zi,zs,fun b hb=>.inl (by have:=zl b hb; omega)⟩,f1,f2,fun b hb=>hF2 b (zl b hb)⟩
def Fp (h3:Hp)(tb:Nat)(rb:Option Nat)(db:Nat)(r:Option DR)(j:Nat):Prop:=j<h3.length/\j≠tb/\rb≠some j/\j≠db/\∀R,r=some R->j≠R.b/\j≠R.p
variable {E:Env}(C:Conds E){lim:Nat}{h H0:Hp}{F:Nat->Prop}
include C
theorem plays_start {h1 h2 h3:Hp}{c:CD}(H:c.In h1){Z:Option ZN}(zi:zin Z h1)(zs:zshut Z h1)(zl:∀b,zmem Z b->b<h1.length){lv:Int}(l1:0<=lv)(l2:lv<=9223372036854775806)(A2:Agr h1 h2)(A3:Agr h2 h3)
  {t:TM}{tb:Nat}(T:t.In tb h2)(tl:h1.length<=tb)(tk:t.k=⟨lv,c.acc,0,0,-1,-1,none⟩)(ta:t.act=false)(toc:t.oc=c.oc)(toz:t.oz=c.oz)(tw:t.wb=none)(tr:t.xs.map TK.raw=c.gs.filter (keepG E))(t0:∀x∈t.xs,x.base=0/\x.spent=0)(tS:∀b,t.rb=some b->tb<b/\∀x∈t.xs,Spx E h2 x tb b)
  {r:Option DR}{ys:List TK}{db:Nat}(D:(dk0 c lv r ys).In db h3)(dl:h2.length<db)(dr:ys.map TK.raw=c.gs.filter (keepG E))(d0:∀y∈ys,y.base=0/\y.spent=-1)(dS:∀R,r=some R->∀x∈ys,Spx E h3 x db R.l){nb:Nat}{B:Blk}(hn:h3[nb]?=some B)(nl:nb<h1.length){lim:Nat}(hlim:lim<=h1.length) :
  PL E h3 (Fp h3 tb t.rb db r) Z lim tb db nb B h3:=by
 have tws:t.ws=[]:=by have:=T.wai; rw[tw] at this; exact this
 have T3:t.In tb h3:=T.onm fun j hj=>eqAgr A3 (T.tlt hj);have le2:=A2.le;have le3:=A3.le;have lt:=lt_of_get T.blk;have ld:=D.lt.1
 have trb:∀b,t.rb=some b->tb<b/\b<h2.length:=fun b hb=>⟨(tS b hb).1,by
  have:=T.row;rw[hb] at this;exact lt_of_get this.2⟩
 have dR:∀R,r=some R->db<R.l/\R.l<R.s/\R.s<R.b/\R.b<R.p/\R.p<h3.length:=fun R hR=>by
  have T:=D.row;rw[show(dk0 c lv r ys).r=some R from hR] at T;obtain⟨q1,q2,q3,q4,-,-,-,q5⟩:=T;exact⟨q1,q2,q3,q4,lt_of_get q5⟩
 have zi3:zin Z h3:=by
  obtain⟨l,rfl⟩:=A2.out;obtain⟨l,rfl⟩:=A3.out;exact zi.grow.grow
 have zs3:zshut Z h3:=zshut.agr zs fun b hb=>eqAgr (A2.trans A3) (zl b hb);have low:∀j,j<h1.length->Fp h3 tb t.rb db r j:=fun j hj=>⟨by omega,by omega,fun e=>by have:=trb j e; omega,by omega,fun R hR=>by have:=dR R hR; omega⟩
 have kok:∀k:KN,k=⟨lv,c.acc,0,0,-1,-1,none⟩->k.Ok/\(0<=k.late/\k.late<=9223372036854775806)/\Zo Z k.z:=fun k hk=>by
  subst hk;have:=H.acc;exact⟨⟨⟨by show -9223372036854775808<=lv; omega,by show lv<=9223372036854775807; omega⟩,this,by simp[i64r],by simp[i64r],by simp[i64r],by simp[i64r]⟩,⟨l1,l2⟩,.inl rfl⟩
 have span:∀ {zs:List TK},zs.map TK.raw=c.gs.filter (keepG E)->∀x∈zs,i64r x.span:=fun hz x hx=>by
  have:x.raw∈_:=List.mem_map_of_mem hx;rw[hz,List.mem_filter] at this;exact H.span _ this.1
 obtain⟨k1,k2,k3⟩:=kok _ tk;obtain⟨k4,k5,k6⟩:=kok (dk0 c lv r ys).k rfl
 have KT:KV E h3 (Fp h3 tb t.rb db r) Z t.k t.xs:=⟨k1,k2,k3,fun x hx=>by
  refine⟨⟨span tr x hx,by rw[(t0 x hx).1]; simp[i64r],by rw[(t0 x hx).2]; simp[i64r]⟩,?_⟩
  obtain⟨b,hb⟩:∃b,t.rb=some b:=by
   cases hrb:t.rb with
   | some b=>exact⟨b,rfl⟩
   | none =>
    have:=T.row;rw[hrb] at this;have this:t.xs=[]:=this;rw[this] at hx;cases hx
  have bb:=trb b hb;refine askf_of zi3 zs3 zl (((tS b hb).2 x hx).of (fun j j1 j2=>eqAgr A3 (by omega)) (Nat.le_refl _)) tl (fun j j1 j2=>⟨by omega,by omega,fun e=>?_,by omega,fun R hR=>by have:=dR R hR; omega⟩) low;rw[hb] at e
  injection e with e
  omega⟩
 have KD:KV E h3 (Fp h3 tb t.rb db r) Z (dk0 c lv r ys).k (dk0 c lv r ys).ys:=⟨k4,k5,k6,fun x hx=>by
  have hx:x∈ys:=hx;refine⟨⟨span dr x hx,by rw[(d0 x hx).1]; simp[i64r],by rw[(d0 x hx).2]; simp[i64r]⟩,?_⟩
  obtain⟨R,hR⟩:∃R,r=some R:=by
   cases hr:r with
   | some R=>exact⟨R,rfl⟩
   | none =>
    have:=D.row;rw[show(dk0 c lv r ys).r=none from hr] at this;have this:ys=[]:=this;rw[this] at hx;cases hx
  have bb:=dR R hR;refine askf_of zi3 zs3 zl (dS R hR x hx) (by omega) (fun j j1 j2=>⟨by omega,by omega,fun e=>by have:=trb j e; omega,by omega,fun R' hR'=>?_⟩) low;rw[hR] at hR'
  injection hR' with e
  subst e;omega⟩
 have nf:∀j,tm t tb j->j<db/\h1.length<=j:=fun j hj=>by
  rcases hj with rfl | h | h
  ·omega
  ·have:=trb j h; omega
  ·rw[tw] at h; cases h
 refine⟨t,dk0 c lv r ys,⟨⟨T3,⟨⟨none,none,tws⟩,fun _=>tw⟩,KT,fun j hj hF=>?_⟩,⟨D,KD,fun hF=>hF.2.2.2.1 rfl,fun R hR=>⟨fun hF=>(hF.2.2.2.2 R hR).1 rfl,fun hF=>(hF.2.2.2.2 R hR).2 rfl⟩⟩,⟨fun _ _=>rfl,fun j hj=>hj.1⟩,fun j hj hd=>?_,hn,fun hj=>?_,fun hd=>?_⟩,⟨by rw[tk]; rfl,by rw[ta]; rfl,toc.symm,toz.symm,tr.trans dr.symm,(fun h=>by rw[ta] at h; cases h),(fun h=>by rw[ta] at h; cases h)⟩,by omega,by omega⟩
 ·rcases hj with rfl | h | h
  ·exact hF.2.1 rfl
  ·exact hF.2.2.1 h
  ·rw[tw] at h; cases h
 ·have:=nf j hj;rcases hd with rfl | ⟨R,hR,hd⟩
  ·omega
  ·have:=dR R hR; omega
 ·have:=nf nb hj; omega
 ·rcases hd with rfl | ⟨R,hR,hd⟩
  ·omega
  ·have:=dR R hR; omega
theorem c7 {c:CD}(H:c.In h){la:Option Addr}{ln le:Nat}{cv:Nat->LD}(S:SlK 6 h la ln le fun j=>(cv j).cs)(hcv:∀j,j<ln->(cv j).Ok) :
  evI E lim (.func 7) [.agg c.cs.toArray,.slice la ln le] h=some (.bool true,h):=by
 have hE:=C.hE;refine PostV.eq ?_;have H1:=H.grow [.cells true c.cs];obtain⟨v,h1,e15,Z,ok,rfl,A1,zi,zn⟩:=(c15 C (lim:=h.length) H1 (by simp)).out;have Hc:=H1.agr A1;have l1:h.length+1<=h1.length:=by have:=A1.le; simpa using this
 obtain⟨r,e23,hr⟩:=c23 C (lim:=h.length) Hc la ln le;obtain⟨p,hp⟩:=zv_ptr Z;rw[hp] at e15;have b1':h1[h.length]?=some (.cells true c.cs):=A1 _ _ get_app0;have agr1:Agr h h1:=(Agr.app _ _).trans A1
 have fin:∀X:Hp,Agr h X->X.take h.length=h:=fun X a=>take_ext hE rfl a.le fun i hi=>by
  rw[List.getElem?_eq_getElem hi];exact a _ _ (List.getElem?_eq_getElem hi)
 refine post_fn hE T7 (Nat.le_of_ble_eq_true rfl) ?_;show Post (evK E h.length ac7 _ _) _;unfold ac7;refine post_mid hE.mono (fun g W=>h++[.cells true c.cs]=W/\g.rd 1=.slice la ln le/\g.rd 2=.pointer (some ⟨h.length,0,none⟩)) (by simp only[push_cast,CD.cs,simprocAttr]) ?_;rintro g W ⟨rfl,g1,g2⟩;have b0:(h++[Blk.cells true c.cs])[h.length]?=some (.cells true c.cs):=get_app0;refine post_mid hE.mono (fun g W=>h1=W/\g.rd 1=.slice la ln le/\g.rd 2=.pointer (some ⟨h.length,0,none⟩)/\g.rd 5=.pointer p/\g.rd 6=.bool ok) ?_ ?_
 ·generalize hX0:h++[Blk.cells true c.cs]=X0 at b0 e15 ⊢;simp only[CD.cs] at b0 e15;simp only[push_cast,g1,g2,b0,e15,simprocAttr]
 clear g1 g2 g;rintro g W ⟨rfl,g1,g2,g5,g6⟩;refine post_mid hE.mono (fun g W=>(h1=W/\g.rd 1=.slice la ln le/\g.rd 2=.pointer (some ⟨h.length,0,none⟩)/\g.rd 5=.pointer p)/\r=true) ?_ ?_
 ·refine post_mid hE.mono (fun g W=>(h1=W/\g.rd 1=.slice la ln le/\g.rd 2=.pointer (some ⟨h.length,0,none⟩)/\g.rd 5=.pointer p)/\∃bb,g.rd 30=.bool bb/\(bb=false->r=true)) ?_ ?_
  ·have b1x:=b1';simp only[CD.cs] at b1x e23;cases ok with
   | false =>
    simp only[push_cast,g1,g2,g5,g6,b1x,simprocAttr];exact⟨_,rfl,fun h=>by cases h⟩
   | true =>
    cases r with
    | false =>
     simp only[push_cast,g1,g2,g5,g6,b1x,e23,simprocAttr];exact⟨_,rfl,fun h=>by cases h⟩
    | true =>
     simp only[push_cast,g1,g2,g5,g6,b1x,e23,simprocAttr];exact⟨_,rfl⟩
  ·clear g1 g2 g5 g6 g;rintro g W ⟨⟨rfl,g1,g2,g5⟩,bb,g30,hbb⟩;cases bb with
   | true =>
    have e17:=fun l=>c17 C (lim:=l) (h:=h1);simp only[push_cast,g30,e17,simprocAttr];exact fin _ agr1
   | false =>
    have:=hbb rfl;simp only[push_cast,g30,g1,g2,g5,simprocAttr];exact this
 clear g1 g2 g5 g6 g;rintro g W ⟨⟨rfl,g1,g2,g5⟩,hr1⟩;obtain⟨n1,n2,n3⟩:=hr hr1;have zl:∀b,zmem Z b->b<h1.length:=fun b hb=>zmem_lt (fun Y hY=>(zn Y hY).2) hb;obtain⟨v,h2,e18,t,tb,rfl,T,A2,tl,tk,ta,toc,toz,tw,tr,t0,tS⟩:=(c18 C (lim:=h.length) (h:=h1) Hc.row (by omega) c.keyOk c.nm (by omega) (acc:=c.acc) (rnd:=c.rnd) H.rnd.2 c.per c.oc c.oz c.un (by omega)).out;have l2:=A2.le;obtain⟨v,h3,e29,r',ys,db,rfl,D,A3,dl,⟨dr,d0⟩,dS⟩:=(c29 C (lim:=h.length) (Hc.agr A2) (by omega) (by omega) (by omega)).out;obtain⟨-,l1',l2',-,-⟩:=late_is C c.keyOk c.nm (by omega) (r:=c.rnd) H.rnd.2;generalize hlv:lateV E c.key c.nm c.rnd=lv at *;have b2:h2[h.length]?=some (.cells true c.cs):=A2 _ _ b1';have b3:h3[h.length]?=some (.cells true c.cs):=A3 _ _ b2;have agr3:Agr h h3:=(agr1.trans A2).trans A3;have V:=plays_start C (lim:=h.length) Hc zi (fun Y hY=>(zn Y hY).2) zl l1' (by omega) A2 A3 T tl tk ta toc toz tw tr t0 tS D dl dr d0 dS b3 (by omega) (by omega);refine post_mid hE.mono (fun g W=>h3=W/\g.rd 1=.slice la ln le/\g.rd 5=.pointer p/\g.rd 7=.pointer (some ⟨tb,0,none⟩)/\g.rd 8=.pointer (some ⟨db,0,none⟩)) ?_ ?_
 ·have y1:=bytes_refl c.un;have y2:=bytes_refl c.nm;have y3:=bytes_refl c.z.ft;simp only[CD.cs] at b1' b2 e29;simp only[CD.key] at e18;simp only[push_cast,g1,g2,g5,b1',b2,e18,e29,sureL,y1,y2,y3,simprocAttr]
 clear g1 g2 g5 g;rintro g W ⟨rfl,g1,g5,g7,g8⟩
 have inF:∀j,j<h1.length->Fp h3 tb t.rb db r' j:=fun j hj=>by
  have:=A3.le;refine⟨by omega,by omega,fun e=>?_,by omega,fun R hR=>?_⟩
  ·have:=(tS j e).1;omega
  ·have T:=D.row;rw[show(dk0 c lv r' ys).r=some R from hR] at T;omega
 have back:∀X',Ctx h3 (Fp h3 tb t.rb db r') X'->Agr h X':=fun X' cX j k hj=>by
  have lj:=lt_of_get hj;exact(cX.R j (inF j (by omega))).trans (agr3 _ _ hj)
 refine post_mid hE.mono (fun g W=>Agr h W) ?_ ?_
 ·simp only[push_cast,g1,g5,g7,g8,simprocAttr];refine loop7 C hp (fun j hj=>hj.1) (S.agr agr3) hcv (fun h0 A hA=>?_) n3 V ⟨by simp[g1],by simp[g5],by simp[g7],by simp[g8],by simp⟩ ?_ ?_
  ·obtain⟨b,o,own,cs,rfl,-,e,-⟩:=S h0;cases hA;have:=lt_of_get e;exact inF b (by omega)
  ·intro f' X' cX;simp only[push_cast,simprocAttr];exact back X' cX
  ·intro f' X' cX hf;simp only[push_cast,hf,simprocAttr];exact fin _ (back X' cX)
 clear g1 g5 g7 g8 g;rintro g W aW;have e17:=fun l=>c17 C (lim:=l) (h:=W);simp only[push_cast,e17,simprocAttr];exact fin _ aW
end
section
theorem VR.scal {m:Mp}{v:Value}(h:(∃b,v=.bool b)\/(∃k n,v=.int k n)\/∃s,v=.string s):VR m v v:=by
 rcases h with⟨b,rfl⟩ | ⟨k,n,rfl⟩ | ⟨s,rfl⟩
 ·exact .bool b
 ·exact .int k n
 ·exact .str s
def Scal (v:Value):Prop:=(∃b,v=.bool b)\/(∃k n,v=.int k n)\/∃s,v=.string s
abbrev Lying:=List (Option (Nat×Nat×List Value))
def mL (L:Lying):Mp:=fun b=>match L[b]? with
 | some (some (c,o,_))=>some ⟨c,o,0,false⟩
 | _=>none
def hL (L:Lying):Hp:=L.map fun
 | some (_,_,cs)=>.cells false cs
 | none=>.dead
theorem hL_len (L:Lying):(hL L).length=L.length:=by simp[hL]
theorem hL_get {L:Lying}{b c o:Nat}{cs:List Value}(h:L[b]?=some (some (c,o,cs))):(hL L)[b]?=some (.cells false cs):=by
 unfold hL;rw[List.getElem?_map,h];rfl
theorem mL_get {L:Lying}{b c o:Nat}{cs:List Value}(h:L[b]?=some (some (c,o,cs))):mL L b=some ⟨c,o,0,false⟩:=by
 unfold mL;rw[h]
theorem mL_inv {L:Lying}{b:Nat}{p:Pl}(h:mL L b=some p):∃cs,L[b]?=some (some (p.c,p.base,cs))/\p.own=false:=by
 unfold mL at h;split at h
 ·rename_i c o cs hq;cases h;exact⟨cs,hq,rfl⟩
 ·cases h
def Lies (W:World)(L:Lying):Prop:=∀c o cs,some (c,o,cs)∈L->c<W.heap.size/\∀k,k<cs.length->W.cell? ⟨c,o+k,none⟩=some (cs.getD k undef)/\Scal (cs.getD k undef)
theorem start_hr [S:Start]{L:Lying}(h:Lies S.w L):HR (mL L) (hL L) S.w:=by
 refine⟨⟨Nat.le_refl _,fun _ _=>rfl,fun b p hb ho=>?_⟩,fun b p hb=>?_,fun b p k hb hk=>?_,fun b b' p p' hb _ _ _ _ ho=>?_,fun b p hb ho=>?_⟩
 ·obtain⟨cs,-,h2⟩:=mL_inv hb;rw[h2] at ho; cases ho
 ·obtain⟨cs,h1,-⟩:=mL_inv hb;refine⟨?_,(h _ _ _ (List.mem_of_getElem? h1)).1⟩;rw[hL_len];exact(List.getElem?_eq_some_iff.1 h1).1
 ·obtain⟨cs,h1,h2⟩:=mL_inv hb;have:=hL_get h1;rw[hk] at this;cases this;refine⟨h2.symm,fun i hi=>?_,fun ho=>by rw[h2] at ho; cases ho⟩;obtain⟨q1,q2⟩:=(h _ _ _ (List.mem_of_getElem? h1)).2 i hi;exact⟨_,q1,VR.scal q2⟩
 ·obtain⟨cs,-,h2⟩:=mL_inv hb;rw[h2] at ho; cases ho
 ·obtain⟨cs,-,h2⟩:=mL_inv hb;rw[h2] at ho; cases ho
section
variable {H:Type}{enc:TypeId×Value->H}{P:Program}{W:World}{spare:Nat->Bool}{n base:Nat}
theorem cells_get {a:Addr}{k:Nat}{cs:List Value}(h:W.cells? 0 a k=some cs):cs.length=k/\∀i,i<k->W.cell? (a.add i)=cs[i]?:=by
 unfold World.cells? at h;rw[if_pos (Nat.zero_le _)] at h;refine⟨by simpa using mapM_some_length h,fun i hi=>mapM_some_get h i i (by simp[hi])⟩
def rowAt (W:World)(c o es i:Nat):List Value:=(W.cells? 0 ⟨c,o+i*es,none⟩ es).getD (List.replicate es undef)
theorem rowAt_len (W:World)(c o es i:Nat):(rowAt W c o es i).length=es:=by
 unfold rowAt;cases h:W.cells? 0 ⟨c,o+i*es,none⟩ es with
 | none=>simp
 | some cs=>exact(cells_get h).1
theorem sl_open {t e:TypeId}{v:Value}{x:DataW H×List MemPlace}(ht:P.underlying t=some (.slice e))(hc:Cell.okWide P W .any base t v)(h:DataW.trod enc P W 0 spare true n t [v]=some x) :
  (v=.slice none 0 0)\/∃(c o len cap m:Nat) (ys:Nat->DataW H×List MemPlace) (ds rest:List (DataW H)),v=.slice (some ⟨c,o,none⟩) len cap/\c<W.heap.size/\len<=cap/\x.1=.slice ds rest/\ds.length=len /\
   ∀i,i<len->DataW.trod enc P W 0 spare true m e (rowAt W c o (P.cellsOf e) i)=some (ys i)/\ds[i]?=some (ys i).1/\∀j,j<P.cellsOf e->W.cell? ⟨c,o+i*P.cellsOf e+j,none⟩=some ((rowAt W c o (P.cellsOf e) i).getD j undef):=by
 rcases DataW.trod_slice ht h with⟨h1,-⟩ | ⟨a,len,cap,elems,rest,m,-,h1,rfl,-,h4,-,h5,h6,-,-⟩
 ·left; simpa using h1
 ·right;have h1:v=.slice (some a) len cap:=by simpa using h1
  subst h1
  have hs:a.spot=none/\a.block<W.heap.size:=by
   unfold Cell.okWide at hc;rw[ht] at hc;unfold Cell.ok at hc;rw[ht] at hc;obtain⟨-,-,-,q,row,cells,q2,-⟩:=hc;refine⟨q,?_⟩;unfold World.shape? at q2;cases hq:W.heap[a.block]? with
   | none=>rw[hq] at q2; cases q2
   | some o=>exact(Array.getElem?_eq_some_iff.1 hq).1
  obtain⟨c,o,sp⟩:=a;obtain⟨rfl,hb⟩:=hs;refine⟨c,o,len,cap,m,fun i=>elems.getD i (.nil,[]),elems.map (·.1),rest.map (·.1),rfl,hb,h4,rfl,by simpa using h5,fun i hi=>?_⟩;have q:=h6 i hi
  have ha:(⟨c,o,none⟩:Addr).add (i*P.cellsOf e)=⟨c,o+i*P.cellsOf e,none⟩:=by
   unfold Addr.add;split
   ·rename_i h0; rw[h0]; rfl
   ·rfl
  rw[ha] at q;have hi':i<elems.length:=by omega
  rw[List.getElem?_eq_getElem hi',Option.bind_eq_some_iff] at q;obtain⟨cs,q1,q2⟩:=q;have hr:rowAt W c o (P.cellsOf e) i=cs:=by unfold rowAt; rw[q1]; rfl
  obtain⟨l1,l2⟩:=cells_get q1;have hd:elems[i]=elems.getD i (.nil,[]):=by rw[List.getD_eq_getElem?_getD,List.getElem?_eq_getElem hi']; rfl
  refine⟨by rw[hr,q2]; exact congrArg some hd,by rw[List.getElem?_map,List.getElem?_eq_getElem hi']; exact congrArg (fun y=>some y.1) hd,fun j hj=>?_⟩
  have ha:(⟨c,o+i*P.cellsOf e,none⟩:Addr).add j=⟨c,o+i*P.cellsOf e+j,none⟩:=by
   unfold Addr.add;split
   ·rename_i h0; rw[h0]; rfl
   ·rfl
  rw[hr,<- ha,l2 j hj,List.getD_eq_getElem?_getD,List.getElem?_eq_getElem (by omega)];rfl
end
end
section
open Go.Proofs.YthbopkpamlbjoaaGreatDoor
open Go.Proofs (Tryz.prog)
theorem bk_one {H:Type}(d:DataW H):1<=Rows.uptoBulk d:=by
 cases d with
 | lit l=>cases l<;>simp[Rows.uptoBulk]
 | nil=>simp[Rows.uptoBulk]
 | ptr d=>simp[Rows.uptoBulk]
 | slice elems spare=>simp[Rows.uptoBulk]
 | agg parts=>simp[Rows.uptoBulk]
 | iface t d=>simp[Rows.uptoBulk]
 | map entries=>simp[Rows.uptoBulk]
 | held h=>simp[Rows.uptoBulk]
theorem bk_part {H:Type}{d:DataW H}{l:List (DataW H)}(h:d∈l):Rows.uptoBulk d<=Rows.uptoBulkAll l:=by
 induction l with
 | nil=>cases h
 | cons x r ih =>
  simp only[Rows.uptoBulkAll];cases List.mem_cons.1 h with
  | inl e=>subst e; omega
  | inr e=>have:=ih e; omega
theorem bk_len {H:Type}(l:List (DataW H)):l.length<=Rows.uptoBulkAll l:=by
 induction l with
 | nil=>simp[Rows.uptoBulkAll]
 | cons x r ih=>have:=bk_one x; simp only[Rows.uptoBulkAll,List.length_cons]; omega
def aOf (E:Option (Nat×Nat×List Value))(i:Nat):Option Addr:=match E with
 | some _=>some ⟨i,0,none⟩
 | none=>none
def eOf (E:Option (Nat×Nat×List Value))(es:Nat):Nat:=match E with
 | some _=>es
 | none=>0
def LieE (W:World)(E:Option (Nat×Nat×List Value)):Prop:=∀c o cs,E=some (c,o,cs)->c<W.heap.size/\∀k,k<cs.length->W.cell? ⟨c,o+k,none⟩=some (cs.getD k undef)/\Scal (cs.getD k undef)
section
variable {H:Type}{enc:TypeId×Value->H}{P:Program}{W:World}{spare:Nat->Bool}{n base:Nat}
theorem row_open {t e:TypeId}{v:Value}{x:DataW H×List MemPlace}(ht:P.underlying t=some (.slice e))(hc:Cell.okWide P W .any base t v)(h:DataW.trod enc P W 0 spare true n t [v]=some x){es:Nat}(hes:P.cellsOf e=es)(h0:0<es)
  (hs:∀m cs y,DataW.trod enc P W 0 spare true m e cs=some y->cs.length=es->∀j,j<es->Scal (cs.getD j undef)) :
  ∃(E:Option (Nat×Nat×List Value)) (len:Nat) (ev:Nat->List Value),LieE W E/\len<=Rows.uptoBulk x.1 /\
   (∀j,j<len->(ev j).length=es/\∃m y,DataW.trod enc P W 0 spare true m e (ev j)=some y/\Rows.uptoBulk y.1<=Rows.uptoBulk x.1) /\
   ∀(L:Lying) (i:Nat),L[i]?=some E->SlW es (hL L) (aOf E i) len (eOf E es) ev/\VR (mL L) (.slice (aOf E i) len (eOf E es)) v:=by
 rcases sl_open ht hc h with rfl | ⟨c,o,len,cap,m,ys,ds,rest,rfl,hb,hl,hx,hd,hr⟩
 ·exact⟨none,0,fun _=>[],fun c o cs h=>(by cases h),Nat.zero_le _,fun j hj=>absurd hj (by omega),fun L i hi=>⟨.inl ⟨rfl,rfl,rfl⟩,.snil⟩⟩
 ·rw[hes] at hr
  have bl:len<=Rows.uptoBulk x.1:=by
   rw[hx];have:=bk_len ds;simp only[Rows.uptoBulk];omega
  have cl:=chunk_len (f:=rowAt W c o es) (k:=es) (fun i=>rowAt_len W c o es i) (List.range len);have get:∀i,i<len->((((List.range len).flatMap (rowAt W c o es)).drop (i*es)).take es)=rowAt W c o es i:=fun i hi=>chunk_get (f:=rowAt W c o es) (fun i=>rowAt_len W c o es i) (List.range len) i i (by rw[List.getElem?_range hi])
  have cell:∀k,k<((List.range len).flatMap (rowAt W c o es)).length->W.cell? ⟨c,o+k,none⟩=some (((List.range len).flatMap (rowAt W c o es)).getD k undef)/\Scal (((List.range len).flatMap (rowAt W c o es)).getD k undef):=fun k hk=>by
   rw[cl,List.length_range] at hk;have hi:k/es<len:=(Nat.div_lt_iff_lt_mul h0).2 hk;have hj:k%es<es:=Nat.mod_lt _ h0;have hk':k/es*es+k%es=k:=by rw[Nat.mul_comm]; exact Nat.div_add_mod k es
   obtain⟨r1,-,r3⟩:=hr (k/es) hi
   have e1:((List.range len).flatMap (rowAt W c o es)).getD k undef=(rowAt W c o es (k/es)).getD (k%es) undef:=by
    rw[<- get _ hi,List.getD_eq_getElem?_getD,List.getD_eq_getElem?_getD,List.getElem?_take_of_lt hj,List.getElem?_drop,hk']
   rw[e1];have:=r3 _ hj;rw[Nat.add_assoc,hk'] at this;exact⟨this,hs _ _ _ r1 (rowAt_len W c o es _) _ hj⟩
  refine⟨some (c,o,(List.range len).flatMap (rowAt W c o es)),len,rowAt W c o es,fun c' o' cs' h=>?_,bl,fun j hj=>⟨rowAt_len W c o es j,m,ys j,(hr j hj).1,?_⟩,fun L i hi=>⟨.inr ⟨i,0,false,_,rfl,rfl,hL_get hi,by rw[cl,List.length_range]; omega,fun j hj=>by rw[Nat.zero_add]; exact get j hj⟩,?_⟩⟩
  ·cases h;exact⟨hb,cell⟩
  ·rw[hx];have:=bk_part (List.mem_of_getElem? (hr j hj).2.1);simp only[Rows.uptoBulk];omega
  ·exact VR.sl (p:=⟨c,o,0,false⟩) (mL_get hi) hl (fun h=>by cases h)
end
end
section
open Go.Proofs.YthbopkpamlbjoaaGreatDoor
open Go.Proofs (Tryz.prog Tryz.underlying66 Tryz.underlying101 Tryz.underlying54 Tryz.underlying58 Tryz.underlying56 Tryz.underlying29 Tryz.underlying5 Tryz.underlying2 Tryz.underlying3 Tryz.underlying4 Tryz.underlying9)
theorem wf_i64 {a:Int}(h:(Lit.int .i64 a).wf=true):i64r a:=by
 unfold i64r;simpa[Lit.wf,IntKind.min,IntKind.max,IntKind.signed,IntKind.bits] using h
theorem len3 {l:List Value}(h:l.length=3):∃a b c,l=[a,b,c]:=match l,h with
 | [a,b,c],_=>⟨a,b,c,rfl⟩
section
variable {H:Type}{enc:TypeId×Value->H}{W:World}{spare:Nat->Bool}{n base:Nat}
theorem one_int {k:IntKind}{t:TypeId}{l:List Value}{y:DataW H×List MemPlace}(ht:Tryz.prog.underlying t=some (.int k))(h:DataW.trod enc Tryz.prog W 0 spare true n t l=some y):∃a,l=[.int k a]/\(Lit.int k a).wf=true:=by
 obtain⟨a,h1,-,h2⟩:=DataW.trod_int ht h;exact⟨a,h1,h2⟩
theorem one_str {t:TypeId}{l:List Value}{y:DataW H×List MemPlace}(ht:Tryz.prog.underlying t=some .string)(h:DataW.trod enc Tryz.prog W 0 spare true n t l=some y):∃s,l=[.string s]/\s.size<Rows.uptoBulk y.1:=by
 obtain⟨s,h1,rfl,h2⟩:=DataW.trod_string ht h;refine⟨s,h1,?_⟩;show s.size<Rows.uptoBulk (DataW.lit (.string s.data.toList));simp[Rows.uptoBulk]
theorem bk_agg {l:List (DataW H)}{d:DataW H}(h:d∈l):Rows.uptoBulk d<Rows.uptoBulk (.agg l):=by
 have:=bk_part h;simp only[Rows.uptoBulk];omega
theorem get_agg {xs:List (DataW H×List MemPlace)}{i:Nat}{y:DataW H×List MemPlace}(h:xs[i]?=some y):Rows.uptoBulk y.1<Rows.uptoBulk (.agg (xs.map (·.1))):=bk_agg (List.mem_map_of_mem (List.mem_of_getElem? h))
theorem some_get {xs:List (DataW H×List MemPlace)}{m i:Nat}(h:xs.length=m)(hi:i<m):∃y,xs[i]?=some y:=⟨_,List.getElem?_eq_getElem (by omega)⟩
theorem k66:Tryz.prog.cellsOf 66=3:=by kernel_rfl
theorem k101:Tryz.prog.cellsOf 101=3:=by kernel_rfl
theorem k2:Tryz.prog.cellsOf 2=1:=by kernel_rfl
theorem k3:Tryz.prog.cellsOf 3=1:=by kernel_rfl
theorem k4:Tryz.prog.cellsOf 4=1:=by kernel_rfl
theorem k5:Tryz.prog.cellsOf 5=1:=by kernel_rfl
theorem k9:Tryz.prog.cellsOf 9=1:=by kernel_rfl
theorem trig_open {cs:List Value}{y:DataW H×List MemPlace}(h:DataW.trod enc Tryz.prog W 0 spare true n 66 cs=some y):∃k s t,cs=[.int .u8 k,.int .i64 s,.string t]/\i64r s/\t.size<Rows.uptoBulk y.1:=by
 obtain⟨xs,m,-,rfl,hl,hx,hg⟩:=DataW.trod_struct Tryz.underlying66 h;rw[k66] at hl;obtain⟨c0,c1,c2,rfl⟩:=len3 hl
 ·
  have l3:xs.length=3:=hx;obtain⟨y0,e0⟩:=some_get l3 (i:=0) (by omega);obtain⟨y1,e1⟩:=some_get l3 (i:=1) (by omega);obtain⟨y2,e2⟩:=some_get l3 (i:=2) (by omega);have g0:DataW.trod enc Tryz.prog W 0 spare true m 5 ((([c0,c1,c2]:List Value).drop 0).take (Tryz.prog.cellsOf 5))=xs[0]?:=hg 0 _ rfl;have g1:DataW.trod enc Tryz.prog W 0 spare true m 2 ((([c0,c1,c2]:List Value).drop 1).take (Tryz.prog.cellsOf 2))=xs[1]?:=hg 1 _ rfl;have g2:DataW.trod enc Tryz.prog W 0 spare true m 9 ((([c0,c1,c2]:List Value).drop 2).take (Tryz.prog.cellsOf 9))=xs[2]?:=hg 2 _ rfl;rw[k5,e0] at g0;rw[k2,e1] at g1;rw[k9,e2] at g2;obtain⟨a,q0,w0⟩:=one_int (l:=[c0]) Tryz.underlying5 g0;obtain⟨b,q1,w1⟩:=one_int (l:=[c1]) Tryz.underlying2 g1;obtain⟨s,q2,w2⟩:=one_str (l:=[c2]) Tryz.underlying9 g2;cases q0; cases q1; cases q2;exact⟨a,b,s,rfl,wf_i64 w1,Nat.lt_trans w2 (get_agg e2)⟩
theorem type_open {cs:List Value}{y:DataW H×List MemPlace}(h:DataW.trod enc Tryz.prog W 0 spare true n 101 cs=some y):∃o d s,cs=[.int .i64 o,.bool d,.string s]/\s.size<Rows.uptoBulk y.1:=by
 obtain⟨xs,m,-,rfl,hl,hx,hg⟩:=DataW.trod_struct Tryz.underlying101 h;rw[k101] at hl;obtain⟨c0,c1,c2,rfl⟩:=len3 hl
 ·
  have l3:xs.length=3:=hx;obtain⟨y0,e0⟩:=some_get l3 (i:=0) (by omega);obtain⟨y1,e1⟩:=some_get l3 (i:=1) (by omega);obtain⟨y2,e2⟩:=some_get l3 (i:=2) (by omega);have g0:DataW.trod enc Tryz.prog W 0 spare true m 3 ((([c0,c1,c2]:List Value).drop 0).take (Tryz.prog.cellsOf 3))=xs[0]?:=hg 0 _ rfl;have g1:DataW.trod enc Tryz.prog W 0 spare true m 4 ((([c0,c1,c2]:List Value).drop 1).take (Tryz.prog.cellsOf 4))=xs[1]?:=hg 1 _ rfl;have g2:DataW.trod enc Tryz.prog W 0 spare true m 9 ((([c0,c1,c2]:List Value).drop 2).take (Tryz.prog.cellsOf 9))=xs[2]?:=hg 2 _ rfl;rw[k3,e0] at g0;rw[k4,e1] at g1;rw[k9,e2] at g2;obtain⟨a,q0,w0⟩:=one_int (l:=[c0]) Tryz.underlying3 g0;obtain⟨b,q1,-⟩:=DataW.trod_bool (cs:=[c1]) Tryz.underlying4 g1;obtain⟨s,q2,w2⟩:=one_str (l:=[c2]) Tryz.underlying9 g2;cases q0; cases q1; cases q2;exact⟨a,b,s,rfl,Nat.lt_trans w2 (get_agg e2)⟩
theorem k58:Tryz.prog.cellsOf 58=28:=by kernel_rfl
theorem k54:Tryz.prog.cellsOf 54=7:=by kernel_rfl
theorem k56:Tryz.prog.cellsOf 56=16:=by kernel_rfl
theorem k29:Tryz.prog.cellsOf 29=4:=by kernel_rfl
theorem k52:Tryz.prog.cellsOf 52=1:=by kernel_rfl
theorem k25:Tryz.prog.cellsOf 25=1:=by kernel_rfl
theorem k26:Tryz.prog.cellsOf 26=1:=by kernel_rfl
theorem k27:Tryz.prog.cellsOf 27=1:=by kernel_rfl
theorem types58:Tryz.prog.cellTypes Tryz.prog.depth 58=some [52,2,2,4,4,4,9,9,5,5,5,5,5,5,5,5,5,5,5,5,5,5,5,5,25,26,27,9]:=by kernel_rfl
omit enc in
theorem len28 {l:List Value} (h:l.length=28):∃c0 c1 c2 c3 c4 c5 c6 c7 c8 c9 c10 c11 c12 c13 c14 c15 c16 c17 c18 c19 c20 c21 c22 c23 c24 c25 c26 c27,l=[c0,c1,c2,c3,c4,c5,c6,c7,c8,c9,c10,c11,c12,c13,c14,c15,c16,c17,c18,c19,c20,c21,c22,c23,c24,c25,c26,c27]:=match l,h with
 | [c0,c1,c2,c3,c4,c5,c6,c7,c8,c9,c10,c11,c12,c13,c14,c15,c16,c17,c18,c19,c20,c21,c22,c23,c24,c25,c26,c27],_=>⟨c0,c1,c2,c3,c4,c5,c6,c7,c8,c9,c10,c11,c12,c13,c14,c15,c16,c17,c18,c19,c20,c21,c22,c23,c24,c25,c26,c27,rfl⟩
theorem ok_row {P:Program}{r:Reach}{t:TypeId}{fs:Array Field}{v:Value}(ht:P.underlying t=some (.struct fs))(h:Value.okWide P W r base t v):∃cs,v=.agg cs/\cs.size=P.cellsOf t/\Row.okWide P W r base t cs:=by
 unfold Value.okWide at h;rw[ht] at h;exact h
set_option maxRecDepth 100000 in
theorem case_read {v:Value} {d:DataW H} {p:List MemPlace} (hv:Value.okWide Tryz.prog W .any base 58 v) (h:DataW.Trod enc Tryz.prog W 0 spare true 58 v d p) :
  ∃(vt va vb vc:Value) (acc rnd:Int) (per oc oz:Bool) (un nm ft:ByteArray) (k:Nat->Int) (m:Nat) (yt ya yb yc:DataW H×List MemPlace),
   v=.agg #[vt,.int .i64 acc,.int .i64 rnd,.bool per,.bool oc,.bool oz,.string un,.string nm,.int .u8 (k 0),.int .u8 (k 1),.int .u8 (k 2),.int .u8 (k 3),.int .u8 (k 4),.int .u8 (k 5),.int .u8 (k 6),.int .u8 (k 7),.int .u8 (k 8),.int .u8 (k 9),.int .u8 (k 10),.int .u8 (k 11),.int .u8 (k 12),.int .u8 (k 13),.int .u8 (k 14),.int .u8 (k 15),va,vb,vc,.string ft]/\i64r acc/\i64r rnd /\
   Cell.okWide Tryz.prog W .any base 52 vt/\Cell.okWide Tryz.prog W .any base 25 va/\Cell.okWide Tryz.prog W .any base 26 vb/\Cell.okWide Tryz.prog W .any base 27 vc /\
   DataW.trod enc Tryz.prog W 0 spare true m 52 [vt]=some yt/\DataW.trod enc Tryz.prog W 0 spare true m 25 [va]=some ya/\DataW.trod enc Tryz.prog W 0 spare true m 26 [vb]=some yb/\DataW.trod enc Tryz.prog W 0 spare true m 27 [vc]=some yc /\
   Rows.uptoBulk yt.1<=Rows.uptoBulk d/\Rows.uptoBulk ya.1<=Rows.uptoBulk d/\Rows.uptoBulk yb.1<=Rows.uptoBulk d/\Rows.uptoBulk yc.1<=Rows.uptoBulk d/\ft.size<=Rows.uptoBulk d:=by
 obtain⟨fuel,h⟩:=h;obtain⟨cs,rfl,hsz,ts,hts,-,hcell⟩:=ok_row Tryz.underlying58 hv;have hts:=Option.some.inj (hts.symm.trans types58);subst hts;have hsz:=hsz.trans k58;obtain⟨l⟩:=cs;obtain⟨c0,c1,c2,c3,c4,c5,c6,c7,c8,c9,c10,c11,c12,c13,c14,c15,c16,c17,c18,c19,c20,c21,c22,c23,c24,c25,c26,c27,rfl⟩:=len28 (l:=l) hsz;have h:DataW.trod enc Tryz.prog W 0 spare true fuel 58 [c0,c1,c2,c3,c4,c5,c6,c7,c8,c9,c10,c11,c12,c13,c14,c15,c16,c17,c18,c19,c20,c21,c22,c23,c24,c25,c26,c27]=some (d,p):=h
 have ok:∀(i:Nat) (u:TypeId) (w:Value),([c0,c1,c2,c3,c4,c5,c6,c7,c8,c9,c10,c11,c12,c13,c14,c15,c16,c17,c18,c19,c20,c21,c22,c23,c24,c25,c26,c27]:List Value)[i]?=some w->([52,2,2,4,4,4,9,9,5,5,5,5,5,5,5,5,5,5,5,5,5,5,5,5,25,26,27,9]:List TypeId)[i%28]?=some u->Cell.okWide Tryz.prog W .any base u w:=fun i u w h1 h2=>by
  obtain⟨u',e1,e2⟩:=hcell i w (by simpa using h1);have:some u'=some u:=e1.symm.trans h2;cases this;exact e2
 have ok0:=ok 0 52 c0 rfl rfl;have ok24:=ok 24 25 c24 rfl rfl;have ok25:=ok 25 26 c25 rfl rfl;have ok26:=ok 26 27 c26 rfl rfl;obtain⟨xs,m,-,hd,-,hx,hgxs⟩:=DataW.trod_struct Tryz.underlying58 h;cases hd;have hx:xs.length=4:=hx;obtain⟨y0,e0⟩:=some_get hx (i:=0) (by omega);obtain⟨y1,e1⟩:=some_get hx (i:=1) (by omega);obtain⟨y2,e2⟩:=some_get hx (i:=2) (by omega);obtain⟨y3,e3⟩:=some_get hx (i:=3) (by omega);have gxs0:DataW.trod enc Tryz.prog W 0 spare true m 54 ((([c0,c1,c2,c3,c4,c5,c6,c7,c8,c9,c10,c11,c12,c13,c14,c15,c16,c17,c18,c19,c20,c21,c22,c23,c24,c25,c26,c27]:List Value).drop 0).take (Tryz.prog.cellsOf 54))=xs[0]?:=hgxs 0 _ rfl;have gxs1:DataW.trod enc Tryz.prog W 0 spare true m 9 ((([c0,c1,c2,c3,c4,c5,c6,c7,c8,c9,c10,c11,c12,c13,c14,c15,c16,c17,c18,c19,c20,c21,c22,c23,c24,c25,c26,c27]:List Value).drop 7).take (Tryz.prog.cellsOf 9))=xs[1]?:=hgxs 1 _ rfl;have gxs2:DataW.trod enc Tryz.prog W 0 spare true m 56 ((([c0,c1,c2,c3,c4,c5,c6,c7,c8,c9,c10,c11,c12,c13,c14,c15,c16,c17,c18,c19,c20,c21,c22,c23,c24,c25,c26,c27]:List Value).drop 8).take (Tryz.prog.cellsOf 56))=xs[2]?:=hgxs 2 _ rfl;have gxs3:DataW.trod enc Tryz.prog W 0 spare true m 29 ((([c0,c1,c2,c3,c4,c5,c6,c7,c8,c9,c10,c11,c12,c13,c14,c15,c16,c17,c18,c19,c20,c21,c22,c23,c24,c25,c26,c27]:List Value).drop 24).take (Tryz.prog.cellsOf 29))=xs[3]?:=hgxs 3 _ rfl;rw[k54,e0] at gxs0;rw[k9,e1] at gxs1;rw[k56,e2] at gxs2;rw[k29,e3] at gxs3;have gxs0:DataW.trod enc Tryz.prog W 0 spare true m 54 [c0,c1,c2,c3,c4,c5,c6]=some y0:=gxs0;have gxs1:DataW.trod enc Tryz.prog W 0 spare true m 9 [c7]=some y1:=gxs1;have gxs2:DataW.trod enc Tryz.prog W 0 spare true m 56 [c8,c9,c10,c11,c12,c13,c14,c15,c16,c17,c18,c19,c20,c21,c22,c23]=some y2:=gxs2;have gxs3:DataW.trod enc Tryz.prog W 0 spare true m 29 [c24,c25,c26,c27]=some y3:=gxs3;have b0:=get_agg e0;have b3:=get_agg e3;obtain⟨us,mus,-,rfl,-,hxus,hgus⟩:=DataW.trod_struct Tryz.underlying54 gxs0;have hxus:us.length=7:=hxus;obtain⟨a0,ea0⟩:=some_get hxus (i:=0) (by omega);have ga0:DataW.trod enc Tryz.prog W 0 spare true mus 52 ((([c0,c1,c2,c3,c4,c5,c6]:List Value).drop 0).take (Tryz.prog.cellsOf 52))=us[0]?:=hgus 0 _ rfl;rw[k52,ea0] at ga0;have ga0:DataW.trod enc Tryz.prog W 0 spare true mus 52 [c0]=some a0:=ga0;obtain⟨a1,ea1⟩:=some_get hxus (i:=1) (by omega);have ga1:DataW.trod enc Tryz.prog W 0 spare true mus 2 ((([c0,c1,c2,c3,c4,c5,c6]:List Value).drop 1).take (Tryz.prog.cellsOf 2))=us[1]?:=hgus 1 _ rfl;rw[k2,ea1] at ga1;have ga1:DataW.trod enc Tryz.prog W 0 spare true mus 2 [c1]=some a1:=ga1;obtain⟨a2,ea2⟩:=some_get hxus (i:=2) (by omega);have ga2:DataW.trod enc Tryz.prog W 0 spare true mus 2 ((([c0,c1,c2,c3,c4,c5,c6]:List Value).drop 2).take (Tryz.prog.cellsOf 2))=us[2]?:=hgus 2 _ rfl;rw[k2,ea2] at ga2;have ga2:DataW.trod enc Tryz.prog W 0 spare true mus 2 [c2]=some a2:=ga2;obtain⟨a3,ea3⟩:=some_get hxus (i:=3) (by omega);have ga3:DataW.trod enc Tryz.prog W 0 spare true mus 4 ((([c0,c1,c2,c3,c4,c5,c6]:List Value).drop 3).take (Tryz.prog.cellsOf 4))=us[3]?:=hgus 3 _ rfl;rw[k4,ea3] at ga3;have ga3:DataW.trod enc Tryz.prog W 0 spare true mus 4 [c3]=some a3:=ga3;obtain⟨a4,ea4⟩:=some_get hxus (i:=4) (by omega);have ga4:DataW.trod enc Tryz.prog W 0 spare true mus 4 ((([c0,c1,c2,c3,c4,c5,c6]:List Value).drop 4).take (Tryz.prog.cellsOf 4))=us[4]?:=hgus 4 _ rfl;rw[k4,ea4] at ga4;have ga4:DataW.trod enc Tryz.prog W 0 spare true mus 4 [c4]=some a4:=ga4;obtain⟨a5,ea5⟩:=some_get hxus (i:=5) (by omega);have ga5:DataW.trod enc Tryz.prog W 0 spare true mus 4 ((([c0,c1,c2,c3,c4,c5,c6]:List Value).drop 5).take (Tryz.prog.cellsOf 4))=us[5]?:=hgus 5 _ rfl;rw[k4,ea5] at ga5;have ga5:DataW.trod enc Tryz.prog W 0 spare true mus 4 [c5]=some a5:=ga5;obtain⟨a6,ea6⟩:=some_get hxus (i:=6) (by omega);have ga6:DataW.trod enc Tryz.prog W 0 spare true mus 9 ((([c0,c1,c2,c3,c4,c5,c6]:List Value).drop 6).take (Tryz.prog.cellsOf 9))=us[6]?:=hgus 6 _ rfl;rw[k9,ea6] at ga6;have ga6:DataW.trod enc Tryz.prog W 0 spare true mus 9 [c6]=some a6:=ga6;obtain⟨vs,mvs,-,rfl,-,hxvs,hgvs⟩:=DataW.trod_struct Tryz.underlying29 gxs3;have hxvs:vs.length=4:=hxvs;obtain⟨z0,ez0⟩:=some_get hxvs (i:=0) (by omega);have gz0:DataW.trod enc Tryz.prog W 0 spare true mvs 25 ((([c24,c25,c26,c27]:List Value).drop 0).take (Tryz.prog.cellsOf 25))=vs[0]?:=hgvs 0 _ rfl;rw[k25,ez0] at gz0;have gz0:DataW.trod enc Tryz.prog W 0 spare true mvs 25 [c24]=some z0:=gz0;obtain⟨z1,ez1⟩:=some_get hxvs (i:=1) (by omega);have gz1:DataW.trod enc Tryz.prog W 0 spare true mvs 26 ((([c24,c25,c26,c27]:List Value).drop 1).take (Tryz.prog.cellsOf 26))=vs[1]?:=hgvs 1 _ rfl;rw[k26,ez1] at gz1;have gz1:DataW.trod enc Tryz.prog W 0 spare true mvs 26 [c25]=some z1:=gz1;obtain⟨z2,ez2⟩:=some_get hxvs (i:=2) (by omega);have gz2:DataW.trod enc Tryz.prog W 0 spare true mvs 27 ((([c24,c25,c26,c27]:List Value).drop 2).take (Tryz.prog.cellsOf 27))=vs[2]?:=hgvs 2 _ rfl;rw[k27,ez2] at gz2;have gz2:DataW.trod enc Tryz.prog W 0 spare true mvs 27 [c26]=some z2:=gz2;obtain⟨z3,ez3⟩:=some_get hxvs (i:=3) (by omega);have gz3:DataW.trod enc Tryz.prog W 0 spare true mvs 9 ((([c24,c25,c26,c27]:List Value).drop 3).take (Tryz.prog.cellsOf 9))=vs[3]?:=hgvs 3 _ rfl;rw[k9,ez3] at gz3;have gz3:DataW.trod enc Tryz.prog W 0 spare true mvs 9 [c27]=some z3:=gz3;obtain⟨acc,q1,w1⟩:=one_int (l:=[c1]) Tryz.underlying2 ga1;obtain⟨rnd,q2,w2⟩:=one_int (l:=[c2]) Tryz.underlying2 ga2;obtain⟨per,q3,-⟩:=DataW.trod_bool (cs:=[c3]) Tryz.underlying4 ga3;obtain⟨oc,q4,-⟩:=DataW.trod_bool (cs:=[c4]) Tryz.underlying4 ga4;obtain⟨oz,q5,-⟩:=DataW.trod_bool (cs:=[c5]) Tryz.underlying4 ga5;obtain⟨un,q6,w6⟩:=one_str (l:=[c6]) Tryz.underlying9 ga6;obtain⟨nm,q7,w7⟩:=one_str (l:=[c7]) Tryz.underlying9 gxs1;obtain⟨ft,q27,w27⟩:=one_str (l:=[c27]) Tryz.underlying9 gz3;cases q1; cases q2; cases q3; cases q4; cases q5; cases q6; cases q7; cases q27;obtain⟨ws,mw,-,hw,-,hxw,hgw⟩:=DataW.trod_array Tryz.underlying56 gxs2;obtain⟨bb0,eb0⟩:=some_get hxw (i:=0) (by omega);have gb0:=hgw 0 (by omega);rw[k5,eb0] at gb0;have gb0:DataW.trod enc Tryz.prog W 0 spare true mw 5 [c8]=some bb0:=gb0;obtain⟨u0,qb0,-⟩:=one_int (l:=[c8]) Tryz.underlying5 gb0;cases qb0;obtain⟨bb1,eb1⟩:=some_get hxw (i:=1) (by omega);have gb1:=hgw 1 (by omega);rw[k5,eb1] at gb1;have gb1:DataW.trod enc Tryz.prog W 0 spare true mw 5 [c9]=some bb1:=gb1;obtain⟨u1,qb1,-⟩:=one_int (l:=[c9]) Tryz.underlying5 gb1;cases qb1;obtain⟨bb2,eb2⟩:=some_get hxw (i:=2) (by omega);have gb2:=hgw 2 (by omega);rw[k5,eb2] at gb2;have gb2:DataW.trod enc Tryz.prog W 0 spare true mw 5 [c10]=some bb2:=gb2;obtain⟨u2,qb2,-⟩:=one_int (l:=[c10]) Tryz.underlying5 gb2;cases qb2;obtain⟨bb3,eb3⟩:=some_get hxw (i:=3) (by omega);have gb3:=hgw 3 (by omega);rw[k5,eb3] at gb3;have gb3:DataW.trod enc Tryz.prog W 0 spare true mw 5 [c11]=some bb3:=gb3;obtain⟨u3,qb3,-⟩:=one_int (l:=[c11]) Tryz.underlying5 gb3;cases qb3;obtain⟨bb4,eb4⟩:=some_get hxw (i:=4) (by omega);have gb4:=hgw 4 (by omega);rw[k5,eb4] at gb4;have gb4:DataW.trod enc Tryz.prog W 0 spare true mw 5 [c12]=some bb4:=gb4;obtain⟨u4,qb4,-⟩:=one_int (l:=[c12]) Tryz.underlying5 gb4;cases qb4;obtain⟨bb5,eb5⟩:=some_get hxw (i:=5) (by omega);have gb5:=hgw 5 (by omega);rw[k5,eb5] at gb5;have gb5:DataW.trod enc Tryz.prog W 0 spare true mw 5 [c13]=some bb5:=gb5;obtain⟨u5,qb5,-⟩:=one_int (l:=[c13]) Tryz.underlying5 gb5;cases qb5;obtain⟨bb6,eb6⟩:=some_get hxw (i:=6) (by omega);have gb6:=hgw 6 (by omega);rw[k5,eb6] at gb6;have gb6:DataW.trod enc Tryz.prog W 0 spare true mw 5 [c14]=some bb6:=gb6;obtain⟨u6,qb6,-⟩:=one_int (l:=[c14]) Tryz.underlying5 gb6;cases qb6;obtain⟨bb7,eb7⟩:=some_get hxw (i:=7) (by omega);have gb7:=hgw 7 (by omega);rw[k5,eb7] at gb7;have gb7:DataW.trod enc Tryz.prog W 0 spare true mw 5 [c15]=some bb7:=gb7;obtain⟨u7,qb7,-⟩:=one_int (l:=[c15]) Tryz.underlying5 gb7;cases qb7;obtain⟨bb8,eb8⟩:=some_get hxw (i:=8) (by omega);have gb8:=hgw 8 (by omega);rw[k5,eb8] at gb8;have gb8:DataW.trod enc Tryz.prog W 0 spare true mw 5 [c16]=some bb8:=gb8;obtain⟨u8,qb8,-⟩:=one_int (l:=[c16]) Tryz.underlying5 gb8;cases qb8;obtain⟨bb9,eb9⟩:=some_get hxw (i:=9) (by omega);have gb9:=hgw 9 (by omega);rw[k5,eb9] at gb9;have gb9:DataW.trod enc Tryz.prog W 0 spare true mw 5 [c17]=some bb9:=gb9;obtain⟨u9,qb9,-⟩:=one_int (l:=[c17]) Tryz.underlying5 gb9;cases qb9;obtain⟨bb10,eb10⟩:=some_get hxw (i:=10) (by omega);have gb10:=hgw 10 (by omega);rw[k5,eb10] at gb10;have gb10:DataW.trod enc Tryz.prog W 0 spare true mw 5 [c18]=some bb10:=gb10;obtain⟨u10,qb10,-⟩:=one_int (l:=[c18]) Tryz.underlying5 gb10;cases qb10;obtain⟨bb11,eb11⟩:=some_get hxw (i:=11) (by omega);have gb11:=hgw 11 (by omega);rw[k5,eb11] at gb11;have gb11:DataW.trod enc Tryz.prog W 0 spare true mw 5 [c19]=some bb11:=gb11;obtain⟨u11,qb11,-⟩:=one_int (l:=[c19]) Tryz.underlying5 gb11;cases qb11;obtain⟨bb12,eb12⟩:=some_get hxw (i:=12) (by omega);have gb12:=hgw 12 (by omega);rw[k5,eb12] at gb12;have gb12:DataW.trod enc Tryz.prog W 0 spare true mw 5 [c20]=some bb12:=gb12;obtain⟨u12,qb12,-⟩:=one_int (l:=[c20]) Tryz.underlying5 gb12;cases qb12;obtain⟨bb13,eb13⟩:=some_get hxw (i:=13) (by omega);have gb13:=hgw 13 (by omega);rw[k5,eb13] at gb13;have gb13:DataW.trod enc Tryz.prog W 0 spare true mw 5 [c21]=some bb13:=gb13;obtain⟨u13,qb13,-⟩:=one_int (l:=[c21]) Tryz.underlying5 gb13;cases qb13;obtain⟨bb14,eb14⟩:=some_get hxw (i:=14) (by omega);have gb14:=hgw 14 (by omega);rw[k5,eb14] at gb14;have gb14:DataW.trod enc Tryz.prog W 0 spare true mw 5 [c22]=some bb14:=gb14;obtain⟨u14,qb14,-⟩:=one_int (l:=[c22]) Tryz.underlying5 gb14;cases qb14;obtain⟨bb15,eb15⟩:=some_get hxw (i:=15) (by omega);have gb15:=hgw 15 (by omega);rw[k5,eb15] at gb15;have gb15:DataW.trod enc Tryz.prog W 0 spare true mw 5 [c23]=some bb15:=gb15;obtain⟨u15,qb15,-⟩:=one_int (l:=[c23]) Tryz.underlying5 gb15;cases qb15;have b0':Rows.uptoBulk (.agg (us.map (·.1)))<Rows.uptoBulk (.agg (xs.map (·.1))):=b0;have b3':Rows.uptoBulk (.agg (vs.map (·.1)))<Rows.uptoBulk (.agg (xs.map (·.1))):=b3;have l0:=get_agg ea0;have l1:=get_agg ez0;have l2:=get_agg ez1;have l3:=get_agg ez2;have l4:=get_agg ez3;refine⟨c0,c24,c25,c26,acc,rnd,per,oc,oz,un,nm,ft,fun j=>[u0,u1,u2,u3,u4,u5,u6,u7,u8,u9,u10,u11,u12,u13,u14,u15].getD j 0,max mus mvs,a0,z0,z1,z2,rfl,wf_i64 w1,wf_i64 w2,ok0,ok24,ok25,ok26,DataW.trod_le (Nat.le_max_left _ _) ga0,DataW.trod_le (Nat.le_max_right _ _) gz0,DataW.trod_le (Nat.le_max_right _ _) gz1,DataW.trod_le (Nat.le_max_right _ _) gz2,?_,?_,?_,?_,?_⟩<;>omega
end
end
section
open Go.Proofs.YthbopkpamlbjoaaGreatDoor
open Go.Proofs (Tryz.prog Tryz.underlying52 Tryz.underlying25 Tryz.underlying26 Tryz.underlying27 Tryz.underlying59 Tryz.underlying2 Tryz.underlying3 Tryz.underlying73)
set_option maxRecDepth 100000
def dT:List Value->TG
 | [.int .u8 k,.int .i64 s,.string t]=>⟨k,s,t⟩
 | _=>default
def dI:List Value->Int
 | .int _ n::_=>n
 | _=>0
def dB:List Value->Bool
 | [_,.bool b,_]=>b
 | _=>false
def dS:List Value->ByteArray
 | [_,_,.string s]=>s
 | _=>⟨#[]⟩
theorem SlW.ev {k n e:Nat}{h:Hp}{a:Option Addr}{ev ev':Nat->List Value}(H:SlW k h a n e ev)(hq:∀j,j<n->ev j=ev' j):SlW k h a n e ev':=by
 rcases H with H | ⟨b,o,own,cs,h1,h2,h3,h4,h5⟩
 ·exact .inl H
 ·exact .inr ⟨b,o,own,cs,h1,h2,h3,h4,fun j hj=>(h5 j hj).trans (hq j hj)⟩
section
variable {H:Type}{enc:TypeId×Value->H}{W:World}{spare:Nat->Bool}{n base:Nat}
theorem scal_int {m:Nat}{t:TypeId}{k:IntKind}(ht:Tryz.prog.underlying t=some (.int k)):∀(m:Nat) (cs:List Value) (y:DataW H×List MemPlace),DataW.trod enc Tryz.prog W 0 spare true m t cs=some y->cs.length=1->∀j,j<1->Scal (cs.getD j undef):=fun m cs y h _ j hj=>by
 obtain⟨a,rfl,-⟩:=one_int ht h;obtain rfl:j=0:=by omega
 exact .inr (.inl ⟨k,a,rfl⟩)
theorem scal66:∀(m:Nat) (cs:List Value) (y:DataW H×List MemPlace),DataW.trod enc Tryz.prog W 0 spare true m 66 cs=some y->cs.length=3->∀j,j<3->Scal (cs.getD j undef):=fun m cs y h _ j hj=>by
 obtain⟨k,s,t,rfl,-⟩:=trig_open h
 match j,hj with
 | 0,_=>exact .inr (.inl ⟨_,_,rfl⟩)
 | 1,_=>exact .inr (.inl ⟨_,_,rfl⟩)
 | 2,_=>exact .inr (.inr ⟨_,rfl⟩)
theorem scal101:∀(m:Nat) (cs:List Value) (y:DataW H×List MemPlace),DataW.trod enc Tryz.prog W 0 spare true m 101 cs=some y->cs.length=3->∀j,j<3->Scal (cs.getD j undef):=fun m cs y h _ j hj=>by
 obtain⟨k,s,t,rfl,-⟩:=type_open h
 match j,hj with
 | 0,_=>exact .inr (.inl ⟨_,_,rfl⟩)
 | 1,_=>exact .inl ⟨_,rfl⟩
 | 2,_=>exact .inr (.inr ⟨_,rfl⟩)
theorem case_laid {v:Value}{d:DataW H}{p:List MemPlace}(hv:Value.okWide Tryz.prog W .any base 58 v)(h:DataW.Trod enc Tryz.prog W 0 spare true 58 v d p)(hb:Rows.uptoBulk d<=1048576) :
  ∃(c:CD) (E0 E1 E2 E3:Option (Nat×Nat×List Value)),LieE W E0/\LieE W E1/\LieE W E2/\LieE W E3 /\
   ∀L:Lying,L[0]?=some E0->L[1]?=some E1->L[2]?=some E2->L[3]?=some E3->c.In (hL L)/\VR (mL L) (.agg c.cs.toArray) v:=by
 obtain⟨vt,va,vb,vc,acc,rnd,per,oc,oz,un,nm,ft,k,m,yt,ya,yb,yc,rfl,w1,w2,o0,o1,o2,o3,g0,g1,g2,g3,b0,b1,b2,b3,b4⟩:=case_read hv h;obtain⟨E0,n0,ev0,le0,bl0,pr0,f0⟩:=row_open Tryz.underlying52 o0 g0 k66 (by omega) scal66;obtain⟨E1,n1,ev1,le1,bl1,pr1,f1⟩:=row_open Tryz.underlying25 o1 g1 k101 (by omega) scal101;obtain⟨E2,n2,ev2,le2,bl2,pr2,f2⟩:=row_open Tryz.underlying26 o2 g2 k2 (by omega) (scal_int Tryz.underlying2 (m:=0));obtain⟨E3,n3,ev3,le3,bl3,pr3,f3⟩:=row_open Tryz.underlying27 o3 g3 k3 (by omega) (scal_int Tryz.underlying3 (m:=0))
 have q0:∀j,j<n0->ev0 j=(dT (ev0 j)).cs/\i64r (dT (ev0 j)).span:=fun j hj=>by
  obtain⟨-,m,y,hy,-⟩:=pr0 j hj;obtain⟨a,b,t,e,r,-⟩:=trig_open hy;rw[e];exact⟨rfl,r⟩
 have q1:∀j,j<n1->ev1 j=[.int .i64 (dI (ev1 j)),.bool (dB (ev1 j)),.string (dS (ev1 j))]/\(dS (ev1 j)).size<1000000000:=fun j hj=>by
  obtain⟨-,m,y,hy,hq⟩:=pr1 j hj;obtain⟨a,b,t,e,r⟩:=type_open hy;rw[e];exact⟨rfl,by show t.size<_; omega⟩
 have q2:∀j,j<n2->ev2 j=[.int .i64 (dI (ev2 j))]:=fun j hj=>by
  obtain⟨-,m,y,hy,-⟩:=pr2 j hj;obtain⟨a,e,-⟩:=one_int Tryz.underlying2 hy;rw[e]; rfl
 have q3:∀j,j<n3->ev3 j=[.int .i64 (dI (ev3 j))]:=fun j hj=>by
  obtain⟨-,m,y,hy,-⟩:=pr3 j hj;obtain⟨a,e,-⟩:=one_int Tryz.underlying3 hy;rw[e]; rfl
 have gl:((List.range n0).map fun j=>dT (ev0 j)).length=n0:=by simp
 have gd:∀j,j<n0->((List.range n0).map fun j=>dT (ev0 j)).getD j default=dT (ev0 j):=fun j hj=>by
  rw[List.getD_eq_getElem?_getD,List.getElem?_map,List.getElem?_range hj]; rfl
 refine⟨⟨aOf E0 0,eOf E0 3,(List.range n0).map fun j=>dT (ev0 j),acc,rnd,per,oc,oz,un,nm,k,⟨aOf E1 1,n1,eOf E1 3,fun j=>dI (ev1 j),fun j=>dB (ev1 j),fun j=>dS (ev1 j),aOf E2 2,n2,eOf E2 1,fun j=>dI (ev2 j),aOf E3 3,n3,eOf E3 1,fun j=>dI (ev3 j),ft⟩⟩,E0,E1,E2,E3,le0,le1,le2,le3,fun L l0 l1 l2 l3=>⟨⟨?_,⟨?_,?_,?_,⟨?_,?_,?_,?_,?_⟩⟩,?_,w1,w2,?_⟩,?_⟩⟩
 ·show SlW 3 (hL L) (aOf E0 0) ((List.range n0).map fun j=>dT (ev0 j)).length (eOf E0 3) _;rw[gl];exact(f0 L 0 l0).1.ev fun j hj=>by rw[gd j hj]; exact(q0 j hj).1
 ·exact(f1 L 1 l1).1.ev fun j hj=>(q1 j hj).1
 ·exact(f2 L 2 l2).1.ev fun j hj=>q2 j hj
 ·exact(f3 L 3 l3).1.ev fun j hj=>q3 j hj
 ·show n1<_; omega
 ·show n2<_; omega
 ·show n3<_; omega
 ·show ft.size<_; omega
 ·exact fun j hj=>(q1 j hj).2
 ·show((List.range n0).map fun j=>dT (ev0 j)).length<_;rw[gl]; omega
 ·intro g hg;obtain⟨j,hj,rfl⟩:=List.mem_map.1 hg;exact(q0 j (List.mem_range.1 hj)).2
 ·have s0:=(f0 L 0 l0).2;have s1:=(f1 L 1 l1).2;have s2:=(f2 L 2 l2).2;have s3:=(f3 L 3 l3).2;refine LR.agg ?_;simp only[CD.cs,gl];exact .cons s0 (.cons (.int _ _) (.cons (.int _ _) (.cons (.bool _) (.cons (.bool _) (.cons (.bool _) (.cons (.str _) (.cons (.str _) (.cons (.int _ _) (.cons (.int _ _) (.cons (.int _ _) (.cons (.int _ _) (.cons (.int _ _) (.cons (.int _ _) (.cons (.int _ _) (.cons (.int _ _) (.cons (.int _ _) (.cons (.int _ _) (.cons (.int _ _) (.cons (.int _ _) (.cons (.int _ _) (.cons (.int _ _) (.cons (.int _ _) (.cons (.int _ _) (.cons s1 (.cons s2 (.cons s3 (.cons (.str _) .nil)))))))))))))))))))))))))))
theorem ok_cell {P:Program}{r:Reach}{base:Nat}{t e:TypeId}{v:Value}(ht:P.underlying t=some (.slice e))(h:Value.okWide P W r base t v):Cell.okWide P W r base t v:=by
 unfold Value.okWide at h;rw[ht] at h;exact h
end
end
section
open Go.Proofs.YthbopkpamlbjoaaGreatDoor
open Go.Joins Go.ChangeShapes Go.WideShapes Go.ChangeAt Go.RowKit Go.Deep
open Go.Proofs (Tryz.prog Tryz.underlying2 Tryz.underlying4)
set_option maxRecDepth 100000
theorem law_calls {E:Env}(hM:EnvMono E){W:World}(hE:@EnvOk ⟨W⟩ Tryz.prog E){L:Lying}(hL0:Lies W L){g:FuncId}{args:List Value}{args':Array Value}(ha:LR (mL L) args args'.toList){h':Hp}(he:evI E 0 (.func g) args (hL L)=some (.bool true,h')) :
  Calls Tryz.prog g args' W fun e W'=>e=.returned (.bool true)/\Below W.heap.size W W':=by
 letI:Start:=⟨W⟩
 obtain⟨n,hn⟩:=(evI_iff hM).1 he;have q:=((evF_ok hE n 0).1 g args (hL L) (.bool true) h' hn (mL L) W args' (start_hr hL0) (Nat.zero_le _) ha).2;refine(callsIn_wide.1 q).mono fun e W' hh=>?_;obtain⟨v',m',rfl,hv,H,S⟩:=hh;cases hv;refine⟨rfl,⟨S.os,S.tape,S.output,S.size,fun k hk=>S.cf k hk fun b p hb ho=>?_⟩⟩;obtain⟨cs,-,hown⟩:=mL_inv hb;rw[hown] at ho;cases ho
end
section
open Go.Proofs.YthbopkpamlbjoaaGreatDoor
open Go.Joins Go.ChangeShapes Go.WideShapes Go.ChangeAt Go.RowKit Go.Deep
open Go.Proofs (Tryz.prog Tryz.checked Tryz.underlying2 Tryz.underlying4)
set_option maxRecDepth 100000
def EnvGood (laid:List (String×DataW Unit)):Prop:=∀W:World,laidMetH Tryz.prog laid W->W.ShapedOpen Tryz.prog->∃E,Conds E/\@EnvOk ⟨W⟩ Tryz.prog E
theorem own:ownKnob Tryz.prog.godebug=none:=by kernel_rfl
theorem laidOut:laidOutB Tryz.prog=true:=by kernel_rfl
def case0:Value:=.agg #[.slice none 0 0,.int .i64 0,.int .i64 0,.bool false,.bool false,.bool false,.string ⟨#[]⟩,.string ⟨#[]⟩,.int .u8 0,.int .u8 0,.int .u8 0,.int .u8 0,.int .u8 0,.int .u8 0,.int .u8 0,.int .u8 0,.int .u8 0,.int .u8 0,.int .u8 0,.int .u8 0,.int .u8 0,.int .u8 0,.int .u8 0,.int .u8 0,.slice none 0 0,.slice none 0 0,.slice none 0 0,.string ⟨#[]⟩]
end
section
open Go.Proofs.YthbopkpamlbjoaaGreatDoor
open Go.Joins Go.ChangeShapes Go.WideShapes Go.ChangeAt Go.RowKit Go.Deep
open Go.Proofs (Tryz.prog Tryz.f7 Tryz.func7 Tryz.params7 Tryz.underlying2 Tryz.underlying4 Tryz.underlying5 Tryz.underlying71 Tryz.underlying90 Tryz.underlying94)
set_option maxRecDepth 100000
theorem k71:Tryz.prog.cellsOf 71=2:=by kernel_rfl
theorem k94:Tryz.prog.cellsOf 94=6:=by kernel_rfl
def dL:List Value->LD
 | [.int .u8 k,.int .i64 r,.int .i64 m,.int .i64 s,.bool b,.bool c]=>⟨k,r,m,s,b,c⟩
 | _=>default
theorem len6 {l:List Value}(h:l.length=6):∃c0 c1 c2 c3 c4 c5,l=[c0,c1,c2,c3,c4,c5]:=match l,h with
 | [c0,c1,c2,c3,c4,c5],_=>⟨c0,c1,c2,c3,c4,c5,rfl⟩
section
variable {H:Type}{enc:TypeId×Value->H}{W:World}{spare:Nat->Bool}{n base:Nat}
theorem call_open {cs:List Value}{y:DataW H×List MemPlace}(h:DataW.trod enc Tryz.prog W 0 spare true n 94 cs=some y):∃k r m s b c,cs=[.int .u8 k,.int .i64 r,.int .i64 m,.int .i64 s,.bool b,.bool c]/\i64r r/\i64r m/\i64r s:=by
 obtain⟨xs,m,-,-,hl,hx,hg⟩:=DataW.trod_struct Tryz.underlying94 h;rw[k94] at hl;obtain⟨c0,c1,c2,c3,c4,c5,rfl⟩:=len6 hl;have l5:xs.length=5:=hx;obtain⟨y0,e0⟩:=some_get l5 (i:=0) (by omega);obtain⟨y1,e1⟩:=some_get l5 (i:=1) (by omega);obtain⟨y2,e2⟩:=some_get l5 (i:=2) (by omega);obtain⟨y3,e3⟩:=some_get l5 (i:=3) (by omega);obtain⟨y4,e4⟩:=some_get l5 (i:=4) (by omega);have g0:DataW.trod enc Tryz.prog W 0 spare true m 5 ((([c0,c1,c2,c3,c4,c5]:List Value).drop 0).take (Tryz.prog.cellsOf 5))=xs[0]?:=hg 0 _ rfl;have g1:DataW.trod enc Tryz.prog W 0 spare true m 71 ((([c0,c1,c2,c3,c4,c5]:List Value).drop 1).take (Tryz.prog.cellsOf 71))=xs[1]?:=hg 1 _ rfl;have g2:DataW.trod enc Tryz.prog W 0 spare true m 2 ((([c0,c1,c2,c3,c4,c5]:List Value).drop 3).take (Tryz.prog.cellsOf 2))=xs[2]?:=hg 2 _ rfl;have g3:DataW.trod enc Tryz.prog W 0 spare true m 4 ((([c0,c1,c2,c3,c4,c5]:List Value).drop 4).take (Tryz.prog.cellsOf 4))=xs[3]?:=hg 3 _ rfl;have g4:DataW.trod enc Tryz.prog W 0 spare true m 4 ((([c0,c1,c2,c3,c4,c5]:List Value).drop 5).take (Tryz.prog.cellsOf 4))=xs[4]?:=hg 4 _ rfl;rw[k5,e0] at g0;rw[k71,e1] at g1;rw[k2,e2] at g2;rw[k4,e3] at g3;rw[k4,e4] at g4;obtain⟨k,q0,w0⟩:=one_int (l:=[c0]) Tryz.underlying5 g0;have g1:DataW.trod enc Tryz.prog W 0 spare true m 71 [c1,c2]=some y1:=g1;obtain⟨us,mu,-,-,-,hu,gu⟩:=DataW.trod_struct Tryz.underlying71 g1;have hu:us.length=2:=hu;obtain⟨a0,ea0⟩:=some_get hu (i:=0) (by omega);obtain⟨a1,ea1⟩:=some_get hu (i:=1) (by omega);have ga0:DataW.trod enc Tryz.prog W 0 spare true mu 2 ((([c1,c2]:List Value).drop 0).take (Tryz.prog.cellsOf 2))=us[0]?:=gu 0 _ rfl;have ga1:DataW.trod enc Tryz.prog W 0 spare true mu 2 ((([c1,c2]:List Value).drop 1).take (Tryz.prog.cellsOf 2))=us[1]?:=gu 1 _ rfl;rw[k2,ea0] at ga0;rw[k2,ea1] at ga1;obtain⟨r,q1,w1⟩:=one_int (l:=[c1]) Tryz.underlying2 ga0;obtain⟨mm,q2,w2⟩:=one_int (l:=[c2]) Tryz.underlying2 ga1;obtain⟨s,q3,w3⟩:=one_int (l:=[c3]) Tryz.underlying2 g2;obtain⟨b,q4,-⟩:=DataW.trod_bool (cs:=[c4]) Tryz.underlying4 g3;obtain⟨c,q5,-⟩:=DataW.trod_bool (cs:=[c5]) Tryz.underlying4 g4;cases q0; cases q1; cases q2; cases q3; cases q4; cases q5;exact⟨k,r,mm,s,b,c,rfl,wf_i64 w1,wf_i64 w2,wf_i64 w3⟩
theorem scal94:∀(m:Nat) (cs:List Value) (y:DataW H×List MemPlace),DataW.trod enc Tryz.prog W 0 spare true m 94 cs=some y->cs.length=6->∀j,j<6->Scal (cs.getD j undef):=fun m cs y h _ j hj=>by
 obtain⟨k,r,mm,s,b,c,rfl,-⟩:=call_open h
 match j,hj with
 | 0,_=>exact .inr (.inl ⟨_,_,rfl⟩)
 | 1,_=>exact .inr (.inl ⟨_,_,rfl⟩)
 | 2,_=>exact .inr (.inl ⟨_,_,rfl⟩)
 | 3,_=>exact .inr (.inl ⟨_,_,rfl⟩)
 | 4,_=>exact .inl ⟨_,rfl⟩
 | 5,_=>exact .inl ⟨_,rfl⟩
theorem calls_laid {v:Value}{d:DataW H}{p:List MemPlace}(hv:Value.okWide Tryz.prog W .any base 90 v)(h:DataW.Trod enc Tryz.prog W 0 spare true 90 v d p) :
  ∃(E:Option (Nat×Nat×List Value)) (n:Nat) (cv:Nat->LD),LieE W E/\(∀j,j<n->(cv j).Ok) /\
   ∀(L:Lying) (i:Nat),L[i]?=some E->SlW 6 (hL L) (aOf E i) n (eOf E 6) (fun j=>(cv j).cs)/\VR (mL L) (.slice (aOf E i) n (eOf E 6)) v:=by
 obtain⟨a,len,cap,rfl⟩:=Go.WideShapes.okWide_slice Tryz.underlying90 hv;obtain⟨fuel,h⟩:=h;have h:DataW.trod enc Tryz.prog W 0 spare true fuel 90 [.slice a len cap]=some (d,p):=h;obtain⟨E,n,ev,le,-,pr,f⟩:=row_open Tryz.underlying90 (ok_cell Tryz.underlying90 hv) h k94 (by omega) scal94
 have q:∀j,j<n->ev j=(dL (ev j)).cs/\(dL (ev j)).Ok:=fun j hj=>by
  obtain⟨-,m,y,hy,-⟩:=pr j hj;obtain⟨k,r,mm,s,b,c,e,r1,r2,r3⟩:=call_open hy;rw[e];exact⟨rfl,⟨r1,r2,r3⟩⟩
 exact⟨E,n,fun j=>dL (ev j),le,fun j hj=>(q j hj).2,fun L i hi=>⟨(f L i hi).1.ev fun j hj=>(q j hj).1,(f L i hi).2⟩⟩
end
theorem plays_calls {W:World}{E:Env}(C:Conds E)(hE:@EnvOk ⟨W⟩ Tryz.prog E){H:Type}{enc:TypeId×Value->H}{base:Nat}{v0 v1:Value}{d0 d1:DataW H}{p0 p1:List MemPlace}
  (o0:Value.okWide Tryz.prog W .any base 58 v0)(o1:Value.okWide Tryz.prog W .any base 90 v1)
  (h0:DataW.Trod enc Tryz.prog W 0 (fun _=>true) true 58 v0 d0 p0)(h1:DataW.Trod enc Tryz.prog W 0 (fun _=>true) true 90 v1 d1 p1)(hb:Rows.uptoBulk d0<=1048576) :
  Calls Tryz.prog 7 #[v0,v1] W fun e W'=>e=.returned (.bool true)/\Below W.heap.size W W':=by
 obtain⟨c,E0,E1,E2,E3,l0,l1,l2,l3,hc⟩:=case_laid o0 h0 hb;obtain⟨E4,n,cv,l4,ok,hs⟩:=calls_laid o1 h1
 have hL0:Lies W [E0,E1,E2,E3,E4]:=fun c o cs hm=>by
  simp only[List.mem_cons,List.not_mem_nil,or_false] at hm;rcases hm with e | e | e | e | e
  ·exact l0 c o cs e.symm
  ·exact l1 c o cs e.symm
  ·exact l2 c o cs e.symm
  ·exact l3 c o cs e.symm
  ·exact l4 c o cs e.symm
 obtain⟨cin,cv0⟩:=hc [E0,E1,E2,E3,E4] rfl rfl rfl rfl;obtain⟨sw,sv'⟩:=hs [E0,E1,E2,E3,E4] 4 rfl;have e7:=c7 C (lim:=0) cin sw.K ok;exact law_calls C.hE.mono hE hL0 (g:=7) (args':=#[v0,v1]) (.cons cv0 (.cons sv' .nil)) e7
end
section
open Go.Proofs.YthbopkpamlbjoaaGreatDoor
open Go.Joins Go.ChangeShapes Go.WideShapes Go.ChangeAt Go.RowKit Go.Deep
open Go.Proofs (Tryz.prog Tryz.checked Tryz.f7 Tryz.func7 Tryz.params7 Tryz.underlying2 Tryz.underlying4)
set_option maxRecDepth 100000
theorem plays_contract (hEnv:EnvGood Rows.timerPlaysUptoRow.laid)(H:Type)(enc:TypeId×Value->H)(W:World)(base:Nat)(args:Array Value)(ds gs:List (DataW H))(before:List MemPlace)
  (hval:∀(j:Nat) t v,Tryz.f7.params[j]?=some t->args[j]?=some v->Value.okWide Tryz.prog W .any base t v)
  (hW:DataW.Whole enc Tryz.prog Tryz.f7.params.toList Rows.timerPlaysSpec.vars false W args.toList ds gs before)(hL:laidMetH Tryz.prog Rows.timerPlaysUptoRow.laid W)(hS:W.ShapedOpen Tryz.prog)(hb:Rows.uptoBulkAll (ds++gs)<=1048576) :
  Calls Tryz.prog 7 args W fun e W'=>∃v,e=.returned v/\Rows.timerPlaysSpec.post enc Tryz.prog Tryz.f7 false true false false W args v W':=by
 have hW':=hW;obtain⟨p,q,hA0,hV,rfl,hfz,hnd⟩:=hW;have hA:DataW.TrodAll enc Tryz.prog W 0 (fun _=>true) true Tryz.f7.params.toList args.toList ds p:=hA0;rw[Tryz.params7] at hA hval;obtain⟨v0,vs0,d0,ds0,p0,q0,hargs,rfl,rfl,h0,r0⟩:=trodAll_cons hA;obtain⟨v1,vs1,d1,ds1,p1,q1,rfl,rfl,rfl,h1,r1⟩:=trodAll_cons r0;obtain⟨rfl,rfl,rfl⟩:=trodAll_nil r1;obtain rfl:args=#[v0,v1]:=by cases args; simp_all
 obtain⟨rfl,rfl⟩:=trodVars_none hV;clear hA0
 have b0:Rows.uptoBulk d0<=1048576:=by
  have:=bk_part (d:=d0) (l:=[d0,d1]++[]) (.head _);omega
 obtain⟨E,C,hE⟩:=hEnv W hL hS;have k0:=h0;have k1:=h1;have lt0:∀x∈p0,x.block<W.heap.size:=by obtain⟨m,hm⟩:=k0; exact DataW.trod_lt m _ _ _ hm
 have lt1:∀x∈p1,x.block<W.heap.size:=by obtain⟨m,hm⟩:=k1; exact DataW.trod_lt m _ _ _ hm
 refine(plays_calls C hE (hval 0 58 v0 rfl rfl) (hval 1 90 v1 rfl rfl) h0 h1 b0).mono fun e W' ⟨he,bel⟩=>?_;subst he
 exact⟨_,rfl,_,_,_,[],(p0++(p1++[])),[],hW',trodAll_mk1 (shut_bool Tryz.underlying4 _),
  (trodAll_cons_mk (Below.trod laidOut (by kernel_rfl) (of_decide_eq_true (by kernel_rfl)) k0 bel lt0) (trodAll_cons_mk (Below.trod laidOut (by kernel_rfl) (of_decide_eq_true (by kernel_rfl)) k1 bel lt1) trodAll_mk0)),rfl,bel.frame _,fun h=>by cases h⟩
end
section
open Go.RowKit
variable [Start]
variable {P:Program}{lim:Nat}{m:Mp}{h:Hp}{w w':World}
theorem below_step (H:HR m h w)(B:Below w.heap.size w w'):HR m h w'/\Step lim m h w m h w':=by
 refine⟨⟨H.gl.of B.size (fun c hc _=>B.block c hc) (fun b p e ho=>Or.inr ⟨b,p,e,ho,rfl⟩),fun b p e=>⟨(H.dom b p e).1,Nat.lt_of_lt_of_le (H.dom b p e).2 B.size⟩,fun b p k e f=>(H.blk b p k e f).same (B.block _ (H.dom b p e).2),H.inj,H.off⟩,
  Sub.refl m,fun b p e e'=>(by rw[e] at e'; cases e'),Nat.le_refl _,fun _ _ _=>rfl,fun c hc _=>B.block c hc,B.size,B.os,B.tape,B.output,fun l _ hL b p k hb e f=>(hL b p k hb e f).same (B.block _ (H.dom b p e).2)⟩
theorem below_new (H:HR m h w)(hl:lim<=h.length)(B:Below w.heap.size w w'){k:Blk}{p:Pl}(h1:w.heap.size<=p.c)(h2:p.c<w'.heap.size)(hb:BR (ins m h.length p) w' p k)(hz:p.own=true->p.base=0) :
  HR (ins m h.length p) (h++[k]) w'/\Step lim m h w (ins m h.length p) (h++[k]) w':=by
 have hsub:=ins_sub H p;have old:∀b q,b≠h.length->m b=some q->b<h.length/\q.c<w.heap.size:=fun b q _ e=>H.dom b q e;refine⟨⟨H.gl.of B.size (fun c hc _=>B.block c hc) (fun b q e ho=>?_),fun b q e=>?_,fun b q k' e f=>?_,fun b b' q q' e e' hd hd' hc ho=>?_,ins_off H hz⟩,hsub,fun b q e e'=>?_,by simp,fun b hb _=>get_push hb,fun c hc _=>B.block c hc,B.size,B.os,B.tape,B.output,fun l hl' hL b q k' hb' e f=>?_⟩
 ·rcases ins_inv e with⟨rfl,rfl⟩ | ⟨_,e⟩
  ·exact .inl h1
  ·exact .inr ⟨b,q,e,ho,rfl⟩
 ·rcases ins_inv e with⟨rfl,rfl⟩ | ⟨hn,e⟩
  ·exact⟨by simp,h2⟩
  ·have:=old b q hn e;have:=B.size;exact⟨by simp; omega,by omega⟩
 ·rcases ins_inv e with⟨rfl,rfl⟩ | ⟨hn,e⟩
  ·rw[get_new] at f;cases f;exact hb
  ·have d:=old b q hn e;rw[get_push d.1] at f;exact((H.blk b q k' e f).same (B.block _ d.2)).mono hsub
 ·rcases ins_inv e with⟨h3,h4⟩ | ⟨hn,e1⟩
  ·rcases ins_inv e' with⟨h5,h6⟩ | ⟨hn',e2⟩
   ·rw[h3,h5]
   ·have:=old b' q' hn' e2;rw[h4] at hc;omega
  ·rcases ins_inv e' with⟨h5,h6⟩ | ⟨hn',e2⟩
   ·have:=old b q hn e1;rw[h6] at hc;omega
   ·have d:=old b q hn e1;have d':=old b' q' hn' e2;rw[get_push d.1] at hd;rw[get_push d'.1] at hd';exact H.inj b b' q q' e1 e2 hd hd' hc ho
 ·rcases ins_inv e with⟨rfl,rfl⟩ | ⟨hn,e⟩
  ·exact⟨Nat.le_refl _,.inl h1⟩
  ·rw[e] at e'; cases e'
 ·rcases ins_inv e with⟨rfl,rfl⟩ | ⟨hn,e⟩
  ·omega
  ·have d:=old b q hn e;rw[get_push d.1] at f;rw[cut_ins (by omega)];exact(hL b q k' hb' e f).same (B.block _ d.2)
theorem same_args {args:List Value}{args':Array Value}(hL:LR m args args'.toList)(ha:∀x∈args,(∃k n,x=.int k n)\/∃s,x=.string s):args=args'.toList:=by
 refine List.ext_getElem (by simpa using hL.1) fun i h1 h2=>?_;have:=hL.2 i h1;rw[List.getD_eq_getElem?_getD,List.getD_eq_getElem?_getD,List.getElem?_eq_getElem h1,List.getElem?_eq_getElem h2] at this;have hfi:=ha _ (List.getElem_mem h1);simp only[Option.getD_some] at this;generalize args[i]=x at this hfi;generalize args'.toList[i]=y at this;rcases hfi with⟨k,n,rfl⟩ | ⟨s,rfl⟩<;>(cases this; rfl)
theorem fn_flat {g:FuncId}{args:List Value}{v:Value}(hv:∀m,VR m v v)(hc:∀(args':Array Value) (w:World),args=args'.toList->Gl (fun _=>none) w->(∀W,(callFunc g args').run P W=.ok (.enter g args') W)/\Calls P g args' w fun e w'=>e=.returned v/\Below w.heap.size w w')(ha:∀x∈args,(∃k n,x=.int k n)\/∃s,x=.string s):FnOk P lim g args h v h:=by
 intro m w args' H hl hL;have e:=same_args hL ha;obtain⟨q1,q2⟩:=hc args' w e ⟨H.gl.1,H.gl.2.1,fun b p hb=>by cases hb⟩;refine⟨q1,callsIn_wide.2 (q2.mono fun e' w' ⟨he,B⟩=>?_)⟩;obtain⟨s1,s2⟩:=below_step (lim:=lim) H B;exact⟨v,m,he,hv m,s1,s2⟩
end
end Go.Ab
