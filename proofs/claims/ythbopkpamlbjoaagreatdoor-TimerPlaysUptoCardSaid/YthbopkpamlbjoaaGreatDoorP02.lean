/- What Go code of this program comes to on a small machine that its translation simulates (a part of the proof of a law of its timers). No condition. -/
import Derived.Test.YthbopkpamlbjoaaGreatDoorP01
set_option linter.unusedSimpArgs false
set_option linter.unusedVariables false
set_option linter.unusedSectionVars false
set_option maxHeartbeats 4000000
namespace Go.Ab
section
variable [Start]
variable {P:Program}{lim n:Nat}{m m' m0:Mp}{h h' h0:Hp}{w w' w0:World}{f f':Fr}{a:Act}
theorem turn_step (H:HR m h w){l:Nat}{p:Pl}{s s':RS}(hm:m l=some p)(ht:turn h l s s'=some h') :
  ∃R:Loop,w.heap[p.c]?=some (.loop R)/\SR s R.state R.pending/\∀st pd,SR s' st pd ->
   HR m h' { w with heap:=w.heap.setIfInBounds p.c (.loop { R with state:=st,pending:=pd }) }/\Step lim m h w m h' { w with heap:=w.heap.setIfInBounds p.c (.loop { R with state:=st,pending:=pd }) }:=by
 unfold turn at ht;split at ht
 ·rename_i k f ps ca cb aa ba s0 hb;split at ht
  ·rename_i e;subst e;cases ht;obtain⟨h1,h2,h3,h4,tmps,fn,df,s1,pd1,g1,g2,g3,g4⟩:=H.blk l p _ hm hb;refine⟨_,g1,g2,fun st pd hs=>?_⟩;have hlt:p.c<w.heap.size:=(H.dom l p hm).2;refine write_step H hm hb (by simp) h1 (by simp) (fun c hc=>by simp only; rw[Array.getElem?_setIfInBounds_ne (Ne.symm hc)]) rfl rfl rfl ⟨h1,h2,h3,h4,tmps,fn,df,st,pd,by simp[hlt],hs,g3,g4⟩ ?_;intro _ c _ _ hB;obtain⟨k1,k2,k3,k4,tmps',fn',df',s1',pd1',q1,q2,q3,q4⟩:=hB;rw[g1] at q1;cases q1;exact⟨k1,k2,k3,k4,tmps,fn,df,st,pd,by simp[hlt],hs,q3,q4⟩
  ·cases ht
 ·cases ht
theorem shut_hr (H:HR m h w){b:Nat}(o:Obj)(hs:Start.w.heap.size<=b)(hb:∀i p,m i=some p->p.c≠b):HR m h { w with heap:=w.heap.setIfInBounds b o } :=
 ⟨⟨by simpa using H.gl.1,fun c hc=>by simp only; rw[Array.getElem?_setIfInBounds_ne (by omega)]; exact H.gl.2.1 c hc,H.gl.2.2⟩,fun i p e=>⟨(H.dom i p e).1,by have:=(H.dom i p e).2; simpa using this⟩,fun i p k e f=>(H.blk i p k e f).same (by simp only; rw[Array.getElem?_setIfInBounds_ne (Ne.symm (hb i p e))]),H.inj,H.off⟩
theorem shut_step (S:Step lim m0 h0 w0 m h w){b:Nat}(o:Obj)(hw:w0.heap.size<=b)(hb:∀i p,m i=some p->p.c≠b):Step lim m0 h0 w0 m h { w with heap:=w.heap.setIfInBounds b o } :=
 ⟨S.ext,S.new,S.len,S.af,fun c hc hn=>by simp only; rw[Array.getElem?_setIfInBounds_ne (by omega)]; exact S.cf c hc hn,by simpa using S.size,S.os,S.tape,S.output,
  fun l hl hL i p k hi e f=>(S.low l hl hL i p k hi e f).same (by simp only; rw[Array.getElem?_setIfInBounds_ne (Ne.symm (hb i p e))])⟩
theorem leave_marks {F:Fence}{fn:Func}{tmps:Array Value}{R:Ending->World->Prop}(hst:Start.w.heap.size<=w0.heap.size):∀(bs:List Nat) (w:World),Marks w0 m w bs->HR m h w->Step lim m0 h0 w0 m h w ->
  (∀w',HR m h w'->Step lim m0 h0 w0 m h w'->LeavesInM F n P fn tmps R [] .returning w')->LeavesInM F n P fn tmps R (bs.map fun b=>⟨.collected b,#[]⟩) .returning w:=by
 intro bs
 induction bs with
 | nil=>intro w _ H S hk; exact hk w H S
 | cons b bs ih =>
  intro w M H S hk;obtain⟨q1,q2,q3,q4⟩:=M.2 b List.mem_cons_self;have hnd:=List.nodup_cons.1 M.1;refine⟨by simp,Or.inl ⟨b,{ w with heap:=w.heap.setIfInBounds b (.deferred none) },rfl,?_,?_⟩⟩
  ·simp[Instr.takeDeferred,getObj,setObj,Sem.run,q3]
  ·refine ih _ ⟨hnd.2,fun c hc=>?_⟩ (shut_hr H _ (Nat.le_trans hst q1) q4) (shut_step S _ q1 q4) hk;obtain⟨r1,r2,r3,r4⟩:=M.2 c (List.mem_cons_of_mem _ hc);refine⟨r1,by simpa using r2,?_,r4⟩;simp only;rw[Array.getElem?_setIfInBounds_ne (fun(e:b=c)=>hnd.1 (by rw[e]; exact hc))];exact r3
theorem putL_fr:∀(ps:List Nat) {args args':List Value} {f:Fr} {tmps:Array Value},FR m n (fun _=>False) f tmps->LR m args args'->(∀t∈ps,t<n) ->
  FR m n (fun _=>False) (putL f ps args) ((ps.zip args').foldl (fun tmps (t,a)=>tmps.setIfInBounds t a) tmps):=by
 intro ps
 induction ps with
 | nil=>intro args args' f tmps F _ _; cases args<;>simpa[putL] using F
 | cons t ps ih =>
  intro args args' f tmps F hL hp;cases args with
  | nil=>obtain rfl:=hL.cases_nil; simpa[putL] using F
  | cons v vs =>
   obtain⟨v',vs',rfl,h1,h2⟩:=hL.cases_cons;simp only[putL,List.zip_cons_cons,List.foldl_cons];exact ih (F.st (hp t (by simp)) h1) h2 fun u hu=>hp u (by simp[hu])
theorem init_fr {args:List Value}{args':Array Value}(hL:LR m args args'.toList)(hn:args.length<=n):FR m n (fun _=>False) args (args'++Array.replicate (n-args'.size) undef):=by
 have hs:args.length=args'.size:=by have:=hL.1; simpa using this
 refine⟨by simp; omega,fun t ht _=>?_⟩
 by_cases h1:t<args.length
 ·have:=hL.2 t h1;have h2:t<args'.size:=hs▸h1;rw[getD_toList] at this;simpa[Fr.rd,Array.getD_eq_getD_getElem?,Array.getElem?_append_left h2] using this
 ·have h2:¬ t<args'.size:=hs▸h1;have e1:Fr.rd args t=undef:=by simp[Fr.rd,List.getD_eq_getElem?_getD,List.getElem?_eq_none (Nat.le_of_not_lt h1)]
  have e2:(args'++Array.replicate (n-args'.size) undef).getD t undef=undef:=by
   rw[Array.getD_eq_getD_getElem?,Array.getElem?_append_right (Nat.le_of_not_lt h2)];simp only[Array.getElem?_replicate];split<;>rfl
  rw[e1,e2];exact .undef
theorem cut_all (H:HR m h w):cut h.length m=m:=by
 funext b
 unfold cut;split
 ·rfl
 ·rename_i hb;cases e:m b with
  | none=>rfl
  | some p=>exact absurd (H.dom b p e).1 hb
theorem drop_step (H:HR m h w)(H':HR m' h' w')(hl:lim<=h.length)(S:Step h.length m h w m' h' w'):HR m (h'.take h.length) w'/\Step lim m h w m (h'.take h.length) w':=by
 have hlen:(h'.take h.length).length=h.length:=by have:=S.len; simp; omega
 have hget:∀b,b<h.length->(h'.take h.length)[b]?=h'[b]?:=fun b hb=>by rw[List.getElem?_take,if_pos hb]
 have hcut:∀l,l<=h.length->cut l m'=cut l m:=by
  intro l hl
  funext b
  unfold cut;split
  ·rename_i hb;cases e:m b with
   | some p=>exact S.ext _ _ e
   | none =>
    cases e':m' b with
    | none=>rfl
    | some p=>have:=(S.new b p e' e).1; omega
  ·rfl
 have hlow:Low h.length m h w:=fun b p k hb e f=>by rw[cut_all H]; exact H.blk b p k e f
 have hlow':=S.low _ (Nat.le_refl _) hlow;refine⟨⟨H.gl.of S.size S.cf (fun b p e ho=>Or.inr ⟨b,p,e,ho,rfl⟩),fun b p e=>?_,fun b p k e f=>?_,fun b b' p p' e e' g g' hc ho=>?_,H.off⟩,⟨Sub.refl m,fun b p e e'=>absurd (e.symm.trans e') (by simp),by omega,fun b hb e=>?_,S.cf,S.size,S.os,S.tape,S.output,fun l hll hL b p k hb e f=>?_⟩⟩
 ·exact⟨by rw[hlen]; exact(H.dom b p e).1,Nat.lt_of_lt_of_le (H.dom b p e).2 S.size⟩
 ·have hb:=(H.dom b p e).1;rw[hget b hb] at f;have:=hlow' b p k hb (S.ext _ _ e) f;rw[hcut _ (Nat.le_refl _),cut_all H] at this;exact this
 ·rw[hget b (H.dom b p e).1] at g;rw[hget b' (H.dom b' p' e').1] at g';exact H'.inj b b' p p' (S.ext _ _ e) (S.ext _ _ e') g g' hc ho
 ·rw[hget b hb]; exact S.af b hb e
 ·have hb':=(H.dom b p e).1;rw[hget b hb'] at f;have:=S.low l (by omega) hL b p k hb (S.ext _ _ e) f;rw[hcut l (by omega)] at this;exact this
end
section
variable {P:Program}
variable [Start]
variable {lim n:Nat}{m m' m0:Mp}{h h' h0:Hp}{w w' w0:World}{f f':Fr}{a:Act}
def FnOk (P:Program)(lim:Nat)(g:FuncId)(args:List Value)(h:Hp)(v:Value)(h':Hp):Prop :=
 ∀(m:Mp) (w:World) (args':Array Value),HR m h w->lim<=h.length->LR m args args'.toList ->
  (∀W,(callFunc g args').run P W=.ok (.enter g args') W) /\
  CallsIn Fence.wide 0 P g args' w (fun e w'=>∃v' m',e=.returned v'/\VR m' v v'/\HR m' h' w'/\Step lim m h w m' h' w')
structure EnvOk (P:Program)(E:Env):Prop where
 prog:P=Go.Proofs.Tryz.prog
 mix:P.follows .mixedOrders=true
 T:∀g fn,E.T g=some fn->∃func,P.funcs[g]?=some func/\cFn P fn.keep func=some fn
 O:∀call lim g args h v h',CallOk P call lim->E.T g=none->E.O call lim g args h=some (v,h')->FnOk P lim g args h v h'
theorem fn_ok {E:Env}(hE:EnvOk P E){fuel lim:Nat}(ih:∀lim,CallOk P (evF E fuel lim) lim){g:FuncId}{args:List Value}{v:Value}(he:evF E (fuel+1) lim (.func g) args h=some (v,h')):FnOk P lim g args h v h':=by
 simp only[evF] at he;split at he
 ·rename_i fn hfn;split at he
  ·rename_i hn;obtain⟨func,hf,hcf⟩:=hE.T g fn hfn;obtain⟨b,res,hb,hname,hres,hfe⟩:=cFn_inv hcf;obtain⟨keep,hkeep⟩:∃k,fn.keep=k:=⟨_,rfl⟩;have e1:fn.n=func.ntmps:=by rw[hfe]
   have e2:fn.ac=cCode P func.ntmps true b:=by rw[hfe]
   have e3:fn.res=res:=by rw[hfe]
   rw[e1] at hn;rw[e2,e3,hkeep] at he;intro m w args' H hl hL;refine⟨fun W=>Go.Proofs.enters_of hf hname hb args' W,?_⟩;obtain⟨lim',hlim'⟩:∃l,(if keep=true then lim else h.length)=l:=⟨_,rfl⟩;rw[hlim'] at he;have hll:lim'<=h.length:=by rw[<- hlim']; split<;>omega
   have key:∀x f1 h1,evC (evF E fuel lim') fuel lim' (cCode P func.ntmps true b) args h=some (x,f1,h1)->(x=.norm\/x=.ret)->∀v1,resV f1 h1 res=some v1->leave keep h h1 v1=some (v,h') ->
     CallsIn Fence.wide 0 P g args' w (fun e w'=>∃v' m',e=.returned v'/\VR m' v v'/\HR m' h' w'/\Step lim m h w m' h' w'):=by
    intro x f1 h1 hev hx v1 hv1 hleave;refine callsIn_of_wp_marks hf hb trivial ?_;refine code_wp (w0:=w) (top:=true) (r:=none) hE.prog hE.mix (ih lim') (fun _=>rfl) b args h x f1 h1 hev hll m _ w ⟨init_fr hL hn,H,[],rfl,fun _=>rfl,List.nodup_nil,fun b hb=>by cases hb⟩ (Nat.le_refl _) _ fun m1 a1 w1 C S=>?_
    have hfin:LeavesInM Fence.wide 0 P func a1.tmps (fun e w'=>∃v' m',e=.returned v'/\VR m' v v'/\HR m' h' w'/\Step lim m h w m' h' w') a1.defers .returning w1:=by
     obtain⟨bs,b1,-,b3⟩:=C.marks;rw[b1];refine leave_marks H.gl.1 bs w1 b3 C.hr S fun w2 H2 S2=>?_;obtain⟨v',r1,r2⟩:=res_val (P:=P) C.fr H2 hres hv1;unfold leave at hleave;split at hleave
     ·rename_i hk;cases hleave;rw[if_pos hk] at hlim';subst hlim';exact⟨v',r1,v',m1,rfl,r2,H2,S2⟩
     ·rename_i hk;split at hleave
      ·rename_i hflat;cases hleave;rw[if_neg hk] at hlim';subst hlim';obtain⟨d1,d2⟩:=drop_step H H2 hl S2;exact⟨v',r1,v',m,rfl,r2.flat hflat,d1,d2⟩
      ·cases hleave
    rcases hx with rfl | rfl
    ·exact hfin
    ·exact hfin
   split at he
   ·rename_i f1 h1 hev;split at he
    ·rename_i v1 hv1; exact key .norm f1 h1 hev (Or.inl rfl) v1 hv1 he
    ·cases he
   ·rename_i f1 h1 hev;split at he
    ·rename_i v1 hv1; exact key .ret f1 h1 hev (Or.inr rfl) v1 hv1 he
    ·cases he
   ·cases he
  ·cases he
 ·rename_i hfn;exact hE.O _ lim g args h v h' (ih lim) hfn he
theorem yl_ok {E:Env}(hE:EnvOk P E){fuel lim:Nat}(ih:∀lim,CallOk P (evF E fuel lim) lim){l:Nat}{args:List Value}{v:Value}(he:evF E (fuel+1) lim (.yield l) args h=some (v,h')){p:Pl}{args':Array Value}(hm:m l=some p)(H:HR m h w)(hl:lim<=h.length)(hL:LR m args args'.toList) :
  ∃fn tmps ca cb,(Instr.yield p.c args').run P w=.ok (.round p.c fn tmps ca cb) w /\
  RoundIn Fence.wide 0 P p.c fn tmps ca cb w (fun e w'=>∃v' m',e=.returned v'/\VR m' v v'/\HR m' h' w'/\Step lim m h w m' h' w'):=by
 simp only[evF] at he;split at he
 ·rename_i k f ps ca cb aa ba hb;split at he
  ·rename_i hlen;obtain⟨ho,ea,eb,hps,tmps,fn,df,st,pd,g1,g2,g3,g4⟩:=H.blk l p _ hm hb;have hsz:args'.size=ps.toArray.size:=by have:=hL.1; simp at this; simp; omega
   refine⟨fn,(ps.toArray.zip args').foldl (fun tmps (t,a)=>tmps.setIfInBounds t a) tmps,ca,cb,?_,?_⟩
   ·simp[Instr.yield,Instr.getLoop,getObj,Sem.run,g1,hsz]
   have F0:FR m k (fun _=>False) (putL f ps args) ((ps.toArray.zip args').foldl (fun tmps (t,a)=>tmps.setIfInBounds t a) tmps):=by
    have:=putL_fr (n:=k) ps (f:=f) (tmps:=tmps) ⟨g3,fun t ht _=>g4 t ht⟩ hL hps
    have e:(ps.toArray.zip args').foldl (fun tmps (t,a)=>tmps.setIfInBounds t a) tmps=(ps.zip args'.toList).foldl (fun tmps (t,a)=>tmps.setIfInBounds t a) tmps:=by
     rw[<- Array.foldl_toList]; simp
    rw[e]; exact this
   rw[ea,eb,<- hE.prog] at he;split at he
   ·rename_i f1 h1 hev1;refine roundIn_of_wpIn trivial ?_;refine code_wp (w0:=w) (top:=false) (r:=some p.c) hE.prog hE.mix (ih lim) (fun e=>by cases e) ca (putL f ps args) h .norm f1 h1 hev1 hl m _ w ⟨F0,H,[],rfl,fun _=>rfl,List.nodup_nil,fun b hb=>by cases hb⟩ (Nat.le_refl _) _ fun m1 a1 w1 C1 S1=>?_;split at he
    ·rename_i h2 ht;have hm1:=S1.ext _ _ hm;obtain⟨R,r1,r2,r3⟩:=turn_step C1.hr hm1 ht
     have e1:R.state=.ready/\R.pending=none:=by
      generalize R.state=s at r2; generalize R.pending=q at r2;cases r2; exact⟨rfl,rfl⟩
     obtain⟨H2,S2⟩:=r3 .busy none .busy;have hlt:p.c<w1.heap.size:=(C1.hr.dom l p hm1).2;refine⟨{ w1 with heap:=w1.heap.setIfInBounds p.c (.loop { R with state:=.busy,pending:=none }) },?_,?_⟩
     ·obtain⟨Rs,Rp,Rf,Rt,Rpa,Ra,Rb,Rd⟩:=R;simp only at e1;obtain⟨rfl,rfl⟩:=e1;simp[Instr.beginRound,Instr.getLoop,getObj,setObj,Sem.run,r1]
     have C2:CR k w false m1 f1 h2 a1 { w1 with heap:=w1.heap.setIfInBounds p.c (.loop { R with state:=.busy,pending:=none }) }:=C1.step C1.fr rfl H2 S2
     have body:∀x f3 h3,evC (evF E fuel lim) fuel lim (cCode P k false cb) f1 h2=some (x,f3,h3)->(∀m3 a3 w3,CR k w false m3 f3 h3 a3 w3->Step lim m h w m3 h3 w3 ->
       roundPost P p.c (fun e w'=>∃v' m',e=.returned v'/\VR m' v v'/\HR m' h' w'/\Step lim m h w m' h' w') (exitOf x) a3 w3) ->
       cb.wpIn (Fence.wide.inRound p.c) 0 P (roundPost P p.c (fun e w'=>∃v' m',e=.returned v'/\VR m' v v'/\HR m' h' w'/\Step lim m h w m' h' w')) a1 { w1 with heap:=w1.heap.setIfInBounds p.c (.loop { R with state:=.busy,pending:=none }) }:=by
      intro x f3 h3 hev3 hk;exact code_wp (w0:=w) (top:=false) (r:=some p.c) hE.prog hE.mix (ih lim) (fun e=>by cases e) cb f1 h2 x f3 h3 hev3 (Nat.le_trans hl (S1.trans S2).len) m1 a1 _ C2 (S1.trans S2).size _ fun m3 a3 w3 C3 S3=>hk m3 a3 w3 C3 ((S1.trans S2).trans S3)
     have endr:∀ {m3:Mp} {w3:World} {h3:Hp} {s':RS} {st':LoopState} {j:Option Code},HR m3 h3 w3->Step lim m h w m3 h3 w3->turn h3 l .busy s'=some h'->SR s' st' j->st'=(if j.isNone then .ready else .done)->v=.bool j.isNone ->
       ∃v1 w4,(Instr.endRound p.c j).run P w3=.ok v1 w4/\∃v' m',Ending.returned v1=.returned v'/\VR m' v v'/\HR m' h' w4/\Step lim m h w m' h' w4:=by
      intro m3 w3 h3 s' st' j H3 S3 ht3 hsr hst hv;have hm3:=S3.ext _ _ hm;obtain⟨R3,t1,t2,t3⟩:=turn_step H3 hm3 ht3;obtain⟨H4,S4⟩:=t3 st' j hsr;refine⟨.bool j.isNone,_,?_,.bool j.isNone,m3,rfl,(by rw[hv]; exact .bool _),H4,S3.trans S4⟩;simp[Instr.endRound,Instr.getLoop,getObj,setObj,Sem.run,t1,hst]
     split at he
     ·rename_i f3 h3 hev3;simp only[Option.map_eq_some_iff,Prod.mk.injEq] at he;obtain⟨h4,ht3,e5,rfl⟩:=he;refine body .norm f3 h3 hev3 fun m3 a3 w3 C3 S3=>?_;exact endr (j:=none) C3.hr S3 ht3 .ready rfl e5.symm
     ·rename_i x f3 h3 hne hev3;simp only[Option.map_eq_some_iff,Prod.mk.injEq] at he;obtain⟨h4,ht3,e5,rfl⟩:=he;refine body x f3 h3 hev3 fun m3 a3 w3 C3 S3=>?_;cases x with
      | norm=>exact absurd rfl (hne)
      | exit i=>exact endr (j:=some (.exit i)) C3.hr S3 ht3 (.exit i) rfl e5.symm
      | ret=>exact endr (j:=some .ret) C3.hr S3 ht3 .ret rfl e5.symm
     ·cases he
    ·cases he
   ·cases he
  ·cases he
 ·cases he
theorem evF_ok {E:Env}(hE:EnvOk P E):∀fuel lim,CallOk P (evF E fuel lim) lim:=by
 intro fuel
 induction fuel with
 | zero=>intro lim; exact⟨fun g args h v h' he=>by simp[evF] at he,fun l args h v h' he=>by simp[evF] at he⟩
 | succ fuel ih =>
  intro lim;exact⟨fun g args h v h' he m w args' H hl hL=>fn_ok hE ih he m w args' H hl hL,fun l args h v h' he m w args' p hm H hl hL=>yl_ok hE ih he hm H hl hL⟩
end
section
def CallLe (c c':CallT):Prop:=∀t args h r,c t args h=some r->c' t args h=some r
variable {c c':CallT}{n n' lim:Nat}
theorem go_mono (hc:CallLe c c'){ρ:Operand->Value}{h:Hp}{ao:AOp}{r:Value×Hp}(hr:ao.go c lim ρ h=some r):ao.go c' lim ρ h=some r:=by
 cases ao
 case call f args =>
  simp only[AOp.go] at hr ⊢;split at hr
  ·exact hc _ _ _ _ hr
  ·split at hr
   ·rename_i hz; rw[if_pos hz]; exact hc _ _ _ _ hr
   ·cases hr
  ·cases hr
 all_goals exact hr
theorem ai_mono (hc:CallLe c c'){i:AI}{f:Fr}{h:Hp}{r:Fr×Hp}(hr:i.run c lim f h=some r):i.run c' lim f h=some r:=by
 cases i with
 | op d g o =>
  simp only[AI.run] at hr ⊢;split
  ·rename_i hg;rw[if_pos hg] at hr;simp only[Option.map_eq_some_iff] at hr ⊢;obtain⟨a,h1,h2⟩:=hr;exact⟨a,go_mono hc h1,h2⟩
  ·rename_i hg; rw[if_neg hg] at hr; exact hr
 | chk d g o=>exact hr
theorem runL_mono (hc:CallLe c c'):∀ {l:List AI} {f:Fr} {h:Hp} {r:Fr×Hp},runL c lim l f h=some r->runL c' lim l f h=some r:=by
 intro l
 induction l with
 | nil=>intro f h r hr; exact hr
 | cons i l ih =>
  intro f h r hr;simp only[runL] at hr ⊢;split at hr
  ·rename_i f1 h1 hi;rw[ai_mono hc hi];exact ih hr
  ·cases hr
theorem lp_mono {s s':Fr->Hp->Option (AX×Fr×Hp)}(hs:∀f h r,s f h=some r->s' f h=some r):∀(n n':Nat),n<=n'->∀ {f:Fr} {h:Hp} {r:AX×Fr×Hp},lp s n f h=some r->lp s' n' f h=some r:=by
 intro n
 induction n with
 | zero=>intro n' _ f h r hr; simp[lp] at hr
 | succ n ih =>
  intro n' hn f h r hr;cases n' with
  | zero=>omega
  | succ n' =>
   simp only[lp] at hr ⊢;split at hr
   ·rename_i f1 h1 he;rw[hs _ _ _ he];exact ih n' (by omega) hr
   ·rename_i r2 hne;obtain⟨x,f1,h1⟩:=r;rw[hs _ _ _ hr];cases x with
    | norm=>exact absurd hr (hne f1 h1)
    | exit i=>rfl
    | ret=>rfl
theorem evC_mono (hc:CallLe c c')(hn:n<=n'):∀ {a:AC} {f:Fr} {h:Hp} {r:AX×Fr×Hp},evC c n lim a f h=some r->evC c' n' lim a f h=some r:=by
 intro a
 induction a with
 | skip=>intro f h r hr; exact hr
 | reg l =>
  intro f h r hr;simp only[evC,Option.map_eq_some_iff] at hr ⊢;obtain⟨x,h1,h2⟩:=hr;exact⟨x,runL_mono hc h1,h2⟩
 | seq a b iha ihb =>
  intro f h r hr;simp only[evC] at hr ⊢;split at hr
  ·rename_i f1 h1 he; rw[iha he]; exact ihb hr
  ·rename_i r2 hne;obtain⟨x,f1,h1⟩:=r;rw[iha hr];cases x with
   | norm=>exact absurd hr (hne f1 h1)
   | exit i=>rfl
   | ret=>rfl
 | cond o a b iha ihb =>
  intro f h r hr;simp only[evC] at hr ⊢;split at hr
  ·exact iha hr
  ·exact ihb hr
  ·cases hr
 | block id a ih =>
  intro f h r hr;simp only[evC] at hr ⊢;split at hr
  ·rename_i i f1 h1 he; rw[ih he]; exact hr
  ·rename_i r2 hne;obtain⟨x,f1,h1⟩:=r;rw[ih hr];cases x with
   | norm=>rfl
   | exit i=>exact absurd hr (hne i f1 h1)
   | ret=>rfl
 | loop a ih =>
  intro f h r hr;simp only[evC] at hr ⊢;exact lp_mono (fun f h r=>ih) n n' hn hr
 | exit i=>intro f h r hr; exact hr
 | ret=>intro f h r hr; exact hr
 | rf g k ps ca cb aa ba _ _ =>
  intro f h r hr;simp only[evC] at hr ⊢;split at hr
  ·split at hr
   ·rename_i v h2 he; rw[hc _ _ _ _ he]; exact hr
   ·cases hr
  ·cases hr
 | bad=>intro f h r hr; cases hr
class EnvMono (E:Env):Prop where
 O:∀c c' lim g args h r,CallLe c c'->E.O c lim g args h=some r->E.O c' lim g args h=some r
theorem evF_mono {E:Env}(hE:EnvMono E):∀(n n':Nat),n<=n'->∀lim,CallLe (evF E n lim) (evF E n' lim):=by
 intro n
 induction n with
 | zero=>intro n' _ lim t args h r hr; simp[evF] at hr
 | succ n ih =>
  intro n' hn lim t args h r hr;cases n' with
  | zero=>omega
  | succ n' =>
   have hn':n<=n':=by omega
   cases t with
   | func g =>
    simp only[evF] at hr ⊢;split at hr
    ·rename_i fn hfn;split at hr
     ·rename_i hl;split at hr
      ·rename_i f1 h1 he;rw[if_pos hl,evC_mono (ih n' hn' _) hn' he]; exact hr
      ·rename_i f1 h1 he;rw[if_pos hl,evC_mono (ih n' hn' _) hn' he]; exact hr
      ·cases hr
     ·cases hr
    ·exact hE.O _ _ _ _ _ _ _ (ih n' hn' _) hr
   | yield l =>
    simp only[evF] at hr ⊢;split at hr
    ·split at hr
     ·rename_i hl;rw[if_pos hl];split at hr
      ·rename_i f1 h1 he;rw[evC_mono (ih n' hn' _) hn' he];simp only;split at hr
       ·split at hr
        ·rename_i f3 h3 he3; rw[evC_mono (ih n' hn' _) hn' he3]; exact hr
        ·rename_i x f3 h3 hne he3;rw[evC_mono (ih n' hn' _) hn' he3];cases x with
         | norm=>exact absurd rfl hne
         | exit i=>exact hr
         | ret=>exact hr
        ·cases hr
       ·cases hr
      ·cases hr
     ·cases hr
    ·cases hr
   | _=>simp[evF] at hr
def W (E:Env)(lim:Nat)(t:Fn)(args:List Value)(h:Hp)(R:Value->Hp->Prop):Prop:=∃n v h',evF E n lim t args h=some (v,h')/\R v h'
def C (E:Env)(lim:Nat)(a:AC)(f:Fr)(h:Hp)(R:AX->Fr->Hp->Prop):Prop:=∃n x f' h',evC (evF E n lim) n lim a f h=some (x,f',h')/\R x f' h'
def L (E:Env)(lim:Nat)(l:List AI)(f:Fr)(h:Hp)(R:Fr->Hp->Prop):Prop:=∃n f' h',runL (evF E n lim) lim l f h=some (f',h')/\R f' h'
variable {E:Env}{f:Fr}{h:Hp}
def AX.on (x:AX)(R:AX->Fr->Hp->Prop)(N:Fr->Hp->Prop):Fr->Hp->Prop:=match x with
 | .norm=>N
 | x=>R x
end
section
open Classical in
noncomputable def lim? {α:Type} (s:Nat->Option α):Option α:=if h:∃r,∃n,s n=some r then some h.choose else none
theorem lim_iff {α:Type}{s:Nat->Option α}(hs:∀n n' r,n<=n'->s n=some r->s n'=some r){r:α}:lim? s=some r<->∃n,s n=some r:=by
 unfold lim?;constructor
 ·intro h;split at h
  ·rename_i hx;cases h;exact hx.choose_spec
  ·cases h
 ·rintro⟨n,hn⟩;have hx:∃r,∃n,s n=some r:=⟨r,n,hn⟩;rw[dif_pos hx];obtain⟨n',hn'⟩:=hx.choose_spec;have e1:=hs n (max n n') r (Nat.le_max_left _ _) hn;have e2:=hs n' (max n n') _ (Nat.le_max_right _ _) hn';rw[e1] at e2;exact e2.symm
noncomputable def evI (E:Env)(lim:Nat):CallT:=fun t args h=>lim? fun n=>evF E n lim t args h
noncomputable def evK (E:Env)(lim:Nat)(a:AC)(f:Fr)(h:Hp):Option (AX×Fr×Hp):=lim? fun n=>evC (evF E n lim) n lim a f h
variable {E:Env}{lim:Nat}(hE:EnvMono E)
include hE
theorem evI_iff {t:Fn}{args:List Value}{h:Hp}{r:Value×Hp}:evI E lim t args h=some r<->∃n,evF E n lim t args h=some r :=
 lim_iff fun n n' r hn e=>evF_mono hE n n' hn lim _ _ _ _ e
theorem evK_iff {a:AC}{f:Fr}{h:Hp}{r:AX×Fr×Hp}:evK E lim a f h=some r<->∃n,evC (evF E n lim) n lim a f h=some r :=
 lim_iff fun n n' r hn e=>evC_mono (evF_mono hE n n' hn lim) hn e
theorem evF_le (n:Nat):CallLe (evF E n lim) (evI E lim):=fun _ _ _ _ e=>(evI_iff hE).2 ⟨n,e⟩
theorem run_lim {i:AI}{f:Fr}{h:Hp}{r:Fr×Hp}(hr:i.run (evI E lim) lim f h=some r):∃n,i.run (evF E n lim) lim f h=some r:=by
 cases i with
 | chk d g o=>exact⟨0,hr⟩
 | op d g o =>
  simp only[AI.run] at hr;split at hr
  ·rename_i hg;simp only[Option.map_eq_some_iff] at hr;obtain⟨x,h1,h2⟩:=hr
   have key:∃n,o.go (evF E n lim) lim f.ev h=some x:=by
    cases o
    case call p args =>
     simp only[AOp.go] at h1 ⊢;split at h1
     ·rename_i e; exact(evI_iff hE).1 h1
     ·rename_i e;split at h1
      ·rename_i hz;obtain⟨n,hn⟩:=(evI_iff hE).1 h1;exact⟨n,by rw[if_pos hz]; exact hn⟩
      ·cases h1
     ·cases h1
    all_goals exact⟨0,h1⟩
   obtain⟨n,hn⟩:=key;exact⟨n,by simp only[AI.run,if_pos hg,hn,Option.map_some,h2]⟩
  ·rename_i hg;exact⟨0,by simp only[AI.run,if_neg hg]; exact hr⟩
theorem runL_lim:∀ {l:List AI} {f:Fr} {h:Hp} {r:Fr×Hp},runL (evI E lim) lim l f h=some r->∃n,runL (evF E n lim) lim l f h=some r:=by
 intro l
 induction l with
 | nil=>intro f h r hr; exact⟨0,hr⟩
 | cons i l ih =>
  intro f h r hr;simp only[runL] at hr;split at hr
  ·rename_i f1 h1 hi;obtain⟨n1,e1⟩:=run_lim hE hi;obtain⟨n2,e2⟩:=ih hr;refine⟨max n1 n2,?_⟩;simp only[runL];rw[ai_mono (evF_mono hE n1 _ (Nat.le_max_left n1 n2) lim) e1];exact runL_mono (evF_mono hE n2 _ (Nat.le_max_right n1 n2) lim) e2
  ·cases hr
theorem evK_reg {l:List AI}{f:Fr}{h:Hp}:evK E lim (.reg l) f h=(runL (evI E lim) lim l f h).map fun(f,h)=>(.norm,f,h):=by
 apply Option.ext;intro r;rw[evK_iff hE];simp only[evC];constructor
 ·rintro⟨n,e⟩;simp only[Option.map_eq_some_iff] at e ⊢;obtain⟨x,h1,h2⟩:=e;exact⟨x,runL_mono (evF_le hE n) h1,h2⟩
 ·intro e;simp only[Option.map_eq_some_iff] at e ⊢;obtain⟨x,h1,h2⟩:=e;obtain⟨n,hn⟩:=runL_lim hE h1;exact⟨n,x,hn,h2⟩
theorem evK_const {a:AC}{f:Fr}{h:Hp}{q:Option (AX×Fr×Hp)}(hq:∀n,evC (evF E n lim) n lim a f h=q):evK E lim a f h=q:=by
 apply Option.ext;intro r;rw[evK_iff hE];simp only[hq,exists_const]
theorem evK_skip {f:Fr}{h:Hp}:evK E lim .skip f h=some (.norm,f,h):=evK_const hE fun _=>rfl
theorem evK_exit {i:Nat}{f:Fr}{h:Hp}:evK E lim (.exit i) f h=some (.exit i,f,h):=evK_const hE fun _=>rfl
theorem evK_ret {f:Fr}{h:Hp}:evK E lim .ret f h=some (.ret,f,h):=evK_const hE fun _=>rfl
def thenK (r:Option (AX×Fr×Hp))(k:Fr->Hp->Option (AX×Fr×Hp)):Option (AX×Fr×Hp):=match r with
 | some (.norm,f,h)=>k f h
 | r=>r
def blockK (id:Nat)(r:Option (AX×Fr×Hp)):Option (AX×Fr×Hp):=match r with
 | some (.exit i,f,h)=>if i=id then some (.norm,f,h) else some (.exit i,f,h)
 | r=>r
theorem evK_seq {a b:AC}{f:Fr}{h:Hp}:evK E lim (.seq a b) f h=thenK (evK E lim a f h) fun f h=>evK E lim b f h:=by
 apply Option.ext;intro r;rw[evK_iff hE];simp only[evC];constructor
 ·rintro⟨n,e⟩;split at e
  ·rename_i f1 h1 he;rw[(evK_iff hE).2 ⟨n,he⟩];exact(evK_iff hE).2 ⟨n,e⟩
  ·rename_i r2 hne;rw[(evK_iff hE).2 ⟨n,e⟩];obtain⟨x,f1,h1⟩:=r;cases x with
   | norm=>exact absurd e (hne f1 h1)
   | exit i=>rfl
   | ret=>rfl
 ·intro e;unfold thenK at e;split at e
  ·rename_i f1 h1 he;obtain⟨n1,e1⟩:=(evK_iff hE).1 he;obtain⟨n2,e2⟩:=(evK_iff hE).1 e;refine⟨max n1 n2,?_⟩;rw[evC_mono (evF_mono hE n1 _ (Nat.le_max_left n1 n2) lim) (Nat.le_max_left n1 n2) e1];exact evC_mono (evF_mono hE n2 _ (Nat.le_max_right n1 n2) lim) (Nat.le_max_right n1 n2) e2
  ·rename_i r2 hne;obtain⟨n1,e1⟩:=(evK_iff hE).1 e;refine⟨n1,?_⟩;rw[e1];obtain⟨x,f1,h1⟩:=r;cases x with
   | norm=>exact absurd e (hne f1 h1)
   | exit i=>rfl
   | ret=>rfl
theorem evK_block {id:Nat}{a:AC}{f:Fr}{h:Hp}:evK E lim (.block id a) f h=blockK id (evK E lim a f h):=by
 apply Option.ext;intro r;rw[evK_iff hE];simp only[evC];constructor
 ·rintro⟨n,e⟩;split at e
  ·rename_i i f1 h1 he; rw[(evK_iff hE).2 ⟨n,he⟩]; exact e
  ·rename_i r2 hne;rw[(evK_iff hE).2 ⟨n,e⟩];obtain⟨x,f1,h1⟩:=r;cases x with
   | norm=>rfl
   | exit i=>exact absurd e (hne i f1 h1)
   | ret=>rfl
 ·intro e;unfold blockK at e;split at e
  ·rename_i i f1 h1 he;obtain⟨n1,e1⟩:=(evK_iff hE).1 he;exact⟨n1,by rw[e1]; exact e⟩
  ·rename_i r2 hne;obtain⟨n1,e1⟩:=(evK_iff hE).1 e;refine⟨n1,?_⟩;rw[e1];obtain⟨x,f1,h1⟩:=r;cases x with
   | norm=>rfl
   | exit i=>exact absurd e (hne i f1 h1)
   | ret=>rfl
def condK (v:Value)(a b:Option (AX×Fr×Hp)):Option (AX×Fr×Hp):=match v with
 | .bool true=>a
 | .bool false=>b
 | _=>none
theorem evK_cond {o:Operand}{a b:AC}{f:Fr}{h:Hp}:evK E lim (.cond o a b) f h=condK (f.ev o) (evK E lim a f h) (evK E lim b f h):=by
 apply Option.ext;intro r;rw[evK_iff hE];simp only[evC];unfold condK;generalize f.ev o=v;split
 ·exact(evK_iff hE).symm
 ·exact(evK_iff hE).symm
 ·simp
theorem evK_loop {a:AC}{f:Fr}{h:Hp}:evK E lim (.loop a) f h=thenK (evK E lim a f h) fun f h=>evK E lim (.loop a) f h:=by
 apply Option.ext;intro r;rw[evK_iff hE];simp only[evC];constructor
 ·rintro⟨n,e⟩;cases n with
  | zero=>simp[lp] at e
  | succ n =>
   simp only[lp] at e;split at e
   ·rename_i f1 h1 he;rw[(evK_iff hE).2 ⟨_,he⟩];refine(evK_iff hE).2 ⟨n+1,?_⟩;simp only[evC];exact lp_mono (fun _ _ _ hh=>hh) n (n+1) (Nat.le_succ n) e
   ·rename_i r2 hne;rw[(evK_iff hE).2 ⟨_,e⟩];obtain⟨x,f1,h1⟩:=r;cases x with
    | norm=>exact absurd e (hne f1 h1)
    | exit i=>rfl
    | ret=>rfl
 ·intro e;unfold thenK at e;split at e
  ·rename_i f1 h1 he;obtain⟨n1,e1⟩:=(evK_iff hE).1 he;obtain⟨n2,e2⟩:=(evK_iff hE).1 e;simp only[evC] at e2;refine⟨max n1 n2+1,?_⟩;have m1:n1<=max n1 n2+1:=by omega
   have m2:n2<=max n1 n2+1:=by omega
   simp only[lp];rw[evC_mono (evF_mono hE n1 _ m1 lim) m1 e1];exact lp_mono (fun f h r hr=>evC_mono (evF_mono hE n2 _ m2 lim) m2 hr) n2 _ (by omega) e2
  ·rename_i r2 hne;obtain⟨n1,e1⟩:=(evK_iff hE).1 e;refine⟨n1+1,?_⟩;simp only[lp];rw[evC_mono (evF_mono hE n1 _ (Nat.le_succ n1) lim) (Nat.le_succ n1) e1];obtain⟨x,f1,h1⟩:=r;cases x with
   | norm=>exact absurd e (hne f1 h1)
   | exit i=>rfl
   | ret=>rfl
def retK (keep:Bool)(h0:Hp)(res:List ARes)(r:Option (AX×Fr×Hp)):Option (Value×Hp):=match r with
 | some (.norm,f,h') | some (.ret,f,h')=>match resV f h' res with
  | some v=>leave keep h0 h' v
  | none=>none
 | _=>none
theorem evI_fn {g:FuncId}{fn:AFn}(hT:E.T g=some fn){args:List Value}{h:Hp}:evI E lim (.func g) args h=if args.length<=fn.n then retK fn.keep h fn.res (evK E (if fn.keep then lim else h.length) fn.ac args h) else none:=by
 apply Option.ext;intro r;rw[evI_iff hE];constructor
 ·rintro⟨n,e⟩;cases n with
  | zero=>simp[evF] at e
  | succ n =>
   simp only[evF,hT] at e;split at e
   ·rename_i hl;rw[if_pos hl];split at e
    ·rename_i f1 h1 he; rw[(evK_iff hE).2 ⟨_,he⟩]; exact e
    ·rename_i f1 h1 he; rw[(evK_iff hE).2 ⟨_,he⟩]; exact e
    ·cases e
   ·cases e
 ·intro e;split at e
  ·rename_i hl;unfold retK at e;split at e
   ·rename_i f1 h1 he;obtain⟨n,hn⟩:=(evK_iff hE).1 he;refine⟨n+1,?_⟩;simp only[evF,hT,if_pos hl,hn];exact e
   ·rename_i f1 h1 he;obtain⟨n,hn⟩:=(evK_iff hE).1 he;refine⟨n+1,?_⟩;simp only[evF,hT,if_pos hl,hn];exact e
   ·cases e
  ·cases e
end
section
noncomputable def seqK (E:Env)(lim:Nat)(b:AC)(r:Option (AX×Fr×Hp)):Option (AX×Fr×Hp):=thenK r fun f h=>evK E lim b f h
theorem evK_seq' {E:Env}{lim:Nat}(hE:EnvMono E){a b:AC}{f:Fr}{h:Hp}:evK E lim (.seq a b) f h=seqK E lim b (evK E lim a f h):=evK_seq hE
theorem evK_loop' {E:Env}{lim:Nat}(hE:EnvMono E){a:AC}{f:Fr}{h:Hp}:evK E lim (.loop a) f h=seqK E lim (.loop a) (evK E lim a f h):=evK_loop hE
theorem seqK_norm {E:Env}{lim:Nat}{b:AC}{f:Fr}{h:Hp}:seqK E lim b (some (.norm,f,h))=evK E lim b f h:=rfl
theorem seqK_exit {E:Env}{lim:Nat}{b:AC}{i:Nat}{f:Fr}{h:Hp}:seqK E lim b (some (.exit i,f,h))=some (.exit i,f,h):=rfl
theorem seqK_ret {E:Env}{lim:Nat}{b:AC}{f:Fr}{h:Hp}:seqK E lim b (some (.ret,f,h))=some (.ret,f,h):=rfl
theorem blockK_norm {id:Nat}{f:Fr}{h:Hp}:blockK id (some (.norm,f,h))=some (.norm,f,h):=rfl
theorem blockK_ret {id:Nat}{f:Fr}{h:Hp}:blockK id (some (.ret,f,h))=some (.ret,f,h):=rfl
theorem blockK_exit {id i:Nat}{f:Fr}{h:Hp}:blockK id (some (.exit i,f,h))=if i=id then some (.norm,f,h) else some (.exit i,f,h):=rfl
theorem condK_true {a b:Option (AX×Fr×Hp)}:condK (.bool true) a b=a:=rfl
theorem condK_false {a b:Option (AX×Fr×Hp)}:condK (.bool false) a b=b:=rfl
theorem condK_bool {x:Bool}{a b:Option (AX×Fr×Hp)}:condK (.bool x) a b=if x=true then a else b:=by cases x<;>rfl
theorem retK_norm {keep:Bool}{h0 h:Hp}{res:List ARes}{f:Fr}:retK keep h0 res (some (.norm,f,h))=(match resV f h res with | some v=>leave keep h0 h v | none=>none):=rfl
theorem retK_ret {keep:Bool}{h0 h:Hp}{res:List ARes}{f:Fr}:retK keep h0 res (some (.ret,f,h))=(match resV f h res with | some v=>leave keep h0 h v | none=>none):=rfl
def nextL (call:CallT)(lim:Nat)(l:List AI)(r:Option (Fr×Hp)):Option (Fr×Hp):=match r with
 | some (f,h)=>runL call lim l f h
 | none=>none
def afterL (r:Option (Fr×Hp)):Option (AX×Fr×Hp):=r.map fun(f,h)=>(.norm,f,h)
theorem afterL_some {f:Fr}{h:Hp}:afterL (some (f,h))=some (.norm,f,h):=rfl
theorem runL_nil {call:CallT}{lim:Nat}{f:Fr}{h:Hp}:runL call lim [] f h=some (f,h):=rfl
theorem runL_cons {call:CallT}{lim:Nat}{i:AI}{l:List AI}{f:Fr}{h:Hp}:runL call lim (i::l) f h=nextL call lim l (i.run call lim f h):=by
 simp only[runL,nextL];cases i.run call lim f h<;>rfl
theorem nextL_some {call:CallT}{lim:Nat}{l:List AI}{f:Fr}{h:Hp}:nextL call lim l (some (f,h))=runL call lim l f h:=rfl
def putR (d:Option Nat)(f:Fr)(r:Option (Value×Hp)):Option (Fr×Hp):=r.map fun(v,h)=>(put f d v,h)
theorem putR_some {d:Nat}{f:Fr}{v:Value}{h:Hp}:putR (some d) f (some (v,h))=some (f.st d v,h):=rfl
theorem putR_none {f:Fr}{v:Value}{h:Hp}:putR none f (some (v,h))=some (f,h):=rfl
theorem op_free {call:CallT}{lim:Nat}{d:Option Nat}{o:AOp}{f:Fr}{h:Hp}:(AI.op d none o).run call lim f h=putR d f (o.go call lim f.ev h):=rfl
theorem chk_free {call:CallT}{lim d:Nat}{o:AOp}{f:Fr}{h:Hp}:(AI.chk d none o).run call lim f h=(match o.run lim f.ev h with | some (v,_)=>if sure (f.rd d) v then some (f,h) else none | none=>none):=rfl
theorem evK_reg' {E:Env}{lim:Nat}(hE:EnvMono E){l:List AI}{f:Fr}{h:Hp}:evK E lim (.reg l) f h=afterL (runL (evI E lim) lim l f h):=evK_reg hE
def guardR (d:Nat)(f:Fr)(h:Hp)(g:Bool)(r:Option (Value×Hp)):Option (Fr×Hp):=if g=true then putR (some d) f r else some (f.st d undef,h)
theorem op_guard' {call:CallT}{lim t d:Nat}{b:Bool}{o:AOp}{f:Fr}{h:Hp}:(AI.op (some d) (some (t,b)) o).run call lim f h=guardR d f h (goes f (some (t,b))) (o.go call lim f.ev h):=rfl
theorem guardR_true {d:Nat}{f:Fr}{h:Hp}{r:Option (Value×Hp)}:guardR d f h true r=putR (some d) f r:=rfl
theorem guardR_false {d:Nat}{f:Fr}{h:Hp}{r:Option (Value×Hp)}:guardR d f h false r=some (f.st d undef,h):=rfl
theorem guardR_some {d:Nat}{f:Fr}{h:Hp}{g:Bool}{v:Value}:guardR d f h g (some (v,h))=some (f.st d (if g=true then v else undef),h):=by cases g<;>rfl
@[congr] theorem guardR_congr {d:Nat} {f:Fr} {h:Hp} {g g':Bool} {r r':Option (Value×Hp)} (hg:g=g') (hr:g'=true->r=r'):guardR d f h g r=guardR d f h g' r':=by
 subst hg;cases g with
 | true=>simp only[guardR,hr rfl]
 | false=>rfl
def chkR (f:Fr)(h:Hp)(g:Bool)(u:Value)(r:Option (Value×Hp)):Option (Fr×Hp):=if g=true then(match r with | some (v,_)=>if sure u v then some (f,h) else none | none=>none) else some (f,h)
theorem chk_guard' {call:CallT}{lim t d:Nat}{b:Bool}{o:AOp}{f:Fr}{h:Hp}:(AI.chk d (some (t,b)) o).run call lim f h=chkR f h (goes f (some (t,b))) (f.rd d) (o.run lim f.ev h):=rfl
@[congr] theorem chkR_congr {f:Fr} {h:Hp} {g g':Bool} {u u':Value} {r r':Option (Value×Hp)} (hg:g=g') (hu:g'=true->u=u') (hr:g'=true->r=r'):chkR f h g u r=chkR f h g' u' r':=by
 subst hg;cases g with
 | true=>simp only[chkR,hr rfl,hu rfl]
 | false=>rfl
theorem chkR_some {f:Fr}{h h1:Hp}{g:Bool}{u v:Value}:chkR f h g u (some (v,h1))=if g=true->sure u v=true then some (f,h) else none:=by
 cases g<;>simp[chkR]
def pickV (c a b:Value):Option Value:=match c with
 | .bool x=>some (if x=true then a else b)
 | _=>none
theorem pick_run' {lim:Nat}{ρ:Operand->Value}{h:Hp}{c a b:Operand}:(AOp.pick c a b).run lim ρ h=(pickV (ρ c) (ρ a) (ρ b)).map (·,h):=by
 simp only[AOp.run,pickV];split
 ·rename_i x e; rw[e]; simp
 ·rename_i hne;split
  ·rename_i x e; exact absurd e (hne x)
  ·rfl
theorem pickV_bool {x:Bool}{a b:Value}:pickV (.bool x) a b=some (if x=true then a else b):=rfl
theorem or_bool {x c:Bool}:(if x=true then Value.bool true else .bool c)=.bool (x||c):=by cases x<;>rfl
theorem and_bool {x c:Bool}:(if x=true then Value.bool c else .bool false)=.bool (x&&c):=by cases x<;>rfl
theorem guard_f {x:Bool}{a b:Value}:(if x=true then a else if(x==false)=true then b else undef)=if x=true then a else b:=by cases x<;>rfl
theorem guard_t {x:Bool}{a b:Value}:(if x=true then(if(x==true)=true then a else undef) else b)=if x=true then a else b:=by cases x<;>rfl
theorem get_app {h l:Hp}{k:Nat}:(h++l)[h.length+k]?=l[k]?:=by rw[List.getElem?_append_right (by omega)]; simp
theorem get_app0 {h l:Hp}:(h++l)[h.length]?=l[0]?:=by rw[List.getElem?_append_right (by omega)]; simp
theorem set_app {h l:Hp}{k:Nat}{b:Blk}:(h++l).set (h.length+k) b=h++l.set k b:=by
 rw[List.set_append_right _ _ (by omega)]; simp
theorem set_app0 {h l:Hp}{b:Blk}:(h++l).set h.length b=h++l.set 0 b:=by
 rw[List.set_append_right _ _ (by omega)]; simp
theorem len_app {h l:Hp}:(h++l).length=h.length+l.length:=List.length_append
theorem app_app {h l l':Hp}:(h++l)++l'=h++(l++l'):=List.append_assoc _ _ _
theorem take_app {h l:Hp}:(h++l).take h.length=h:=by simp
theorem get_old {h l:Hp}{b:Nat}{k:Blk}(e:h[b]?=some k):(h++l)[b]?=some k:=by
 rw[List.getElem?_append_left (List.getElem?_eq_some_iff.1 e).1]; exact e
theorem le_app {n k:Nat}:(n<=n+k)=True:=by simp
end
end Go.Ab
