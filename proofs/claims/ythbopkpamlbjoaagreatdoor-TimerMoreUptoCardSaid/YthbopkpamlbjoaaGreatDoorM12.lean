/- What Go code of this program comes to on a small machine that its translation simulates (a part of the proof of a law of its timers). No condition. -/
import Derived.Deep.DeepWitnessRowRef
import Derived.SevenTiedAt
import Derived.Test.YthbopkpamlbjoaaGreatDoorM10
import Derived.Test.YthbopkpamlbjoaaGreatDoorM11
set_option linter.unusedSimpArgs false
set_option linter.unusedVariables false
set_option linter.unusedSectionVars false
set_option maxHeartbeats 4000000
namespace Go.Ab
section
open Go.Proofs.YthbopkpamlbjoaaGreatDoor
open Go.Joins Go.ChangeShapes Go.WideShapes Go.ChangeAt Go.RowKit Go.Deep
open Go.Proofs (Tryz.prog Tryz.checked Tryz.f5 Tryz.func5 Tryz.params5 Tryz.underlying2 Tryz.underlying4)
set_option maxRecDepth 100000
noncomputable def worldM (os:Os):World:=World.laidAll Tryz.prog os Rows.timerMoreUptoRow.laid
noncomputable def argsM:Array Value:=#[case0,.agg #[.int .u8 0,.int .i64 0,.string ⟨#[]⟩],.int .i64 0,.int .u32 0]
theorem laidM_met (os:Os):laidMet Tryz.prog Rows.timerMoreUptoRow.laid ((worldM os).forCall (fun _ _=>0) ⟨#[],argsM,[]⟩).memory :=
 laidMet_laidAll _ (by kernel_rfl) (by kernel_rfl)
theorem more_reads (os:Os){H:Type}(enc:TypeId×Value->H):∃places,DataW.whole enc Tryz.prog ((worldM os).forCall (fun _ _=>0) ⟨#[],argsM,[]⟩).memory Tryz.f5.params.toList Rows.timerMoreSpec.vars false argsM.toList 8 =
  some ([.agg [.agg [.nil,.lit (.int .i64 0),.lit (.int .i64 0),.lit (.bool false),.lit (.bool false),.lit (.bool false),.lit (.string [])],.lit (.string []),.agg (List.replicate 16 (.lit (.int .u8 0))),.agg [.nil,.nil,.nil,.lit (.string [])]],.agg [.lit (.int .u8 0),.lit (.int .i64 0),.lit (.string [])],.lit (.int .i64 0),.lit (.int .u32 0)],[],places) :=
 ⟨[],by kernel_rfl⟩
theorem more_upto (hEnv:EnvGood Rows.timerMoreUptoRow.laid)(os:Os)(started:os.Started)(H:Type)(enc:TypeId×Value->H)(F:Stop.Interp) :
  ReturnsInHanded {} Tryz.checked os 5 .any ((Rows.OpenSpec.upto Rows.timerMoreSpec).preRow enc Tryz.prog Tryz.f5 Rows.timerMoreUptoRow.domain false Rows.timerMoreUptoRow.laid) (((Rows.OpenSpec.upto Rows.timerMoreSpec).at F).post enc Tryz.prog Tryz.f5 false true false false):=by
 obtain⟨places,hx⟩:=more_reads os enc
 refine returnsInHanded_of_row (C:=Tryz.checked) (s:=Rows.OpenSpec.upto Rows.timerMoreSpec) own started (by kernel_rfl) Tryz.func5
  (witness_row_atRef (enc:=enc) (C:=Tryz.checked) false (worldM os) argsM (World.laidAll_os _ _ _) (by kernel_rfl) (by kernel_rfl) (by kernel_rfl)
   (OpenSpec.preRow_of_cond 8 hx (by kernel_rfl) (fun k hk=>by cases hk; kernel_rfl) (by kernel_rfl) (laidM_met os))) ?_
 intro W base args ds gs before hval hW _ hcond _ hL hS _;exact more_contract hEnv H enc W base args ds gs before hval hW hL hS (of_decide_eq_true (hcond _ rfl))
theorem more_said (hEnv:EnvGood Rows.timerMoreUptoRow.laid):Rows.TimerMoreUptoSaid :=
 OpenClaim.holds_of_cond 5 Tryz.f5 rfl rfl rfl rfl rfl rfl rfl ⟨rfl,rfl,rfl,rfl,rfl⟩ rfl rfl rfl rfl rfl (by kernel_rfl) Tryz.func5 (joined_of fact5_0 fact5_1 fact5_2 fact5_3 fact5_4 fact5_5 fact5_6 fact5_7 fact5_8 fact5_9 fact5_10 fact5_11 fact5_12 fact5_13 fact5_14 fact5_15 fact5_16 fact5_17 fact5_18 fact5_19 fact5_20 fact5_21 fact5_22 fact5_23 fact5_24 fact5_25 fact5_26 fact5_27 fact5_28 fact5_29 fact5_30 fact5_31)
  (of_decide_eq_true (by kernel_rfl)) (by unfold Func.isWrapper; first | (rw[if_pos (by decide +kernel)]; kernel_rfl) | (rw[if_neg (by decide +kernel)]; exact⟨rfl,rfl⟩))
  (fun os started H enc _ F=>by rw[OpenClaim.pre_eq_preRow]; exact more_upto hEnv os started H enc F)
theorem more_plain (f:FuncId)(fn:Func)(hf:Tryz.pinned.checked.prog.funcNamed "clepsydra/clepsydralaw29.TimerMore" = some f)(hfn:Tryz.pinned.checked.prog.funcs[f]?=some fn) :
  true=Tryz.pinned.checked.prog.looks []/\∀(j:Nat) t,fn.params[j]?=some t->Tryz.pinned.checked.prog.wantsStandIn t=false:=by
 obtain rfl:f=5:=Option.some.inj ((show Tryz.prog.funcNamed "clepsydra/clepsydralaw29.TimerMore" = some 5 by kernel_rfl).symm.trans hf) |>.symm
 obtain rfl:fn=Tryz.f5:=(Option.some.inj (Tryz.func5.symm.trans hfn)).symm;refine⟨by kernel_rfl,fun j t ht=>?_⟩;rw[Tryz.params5] at ht;have hm:t∈[58,66,2,73]:=by simpa using Array.mem_of_getElem? ht
 have hall:([58,66,2,73].all fun u=>!Tryz.prog.wantsStandIn u)=true:=by kernel_rfl
 exact(show Tryz.prog.wantsStandIn t=false by simpa using List.all_eq_true.1 hall t hm)
theorem more_card (hEnv:EnvGood Rows.timerMoreUptoRow.laid):Rows.TimerMoreUptoCardSaid :=
 Claim7.holds_tied_plain_at .later [] _ _ _ _ (more_said hEnv) (fun _ h=>by cases h) (by kernel_rfl) (fun _ h=>by cases h) timerMoreUpto_row_tie rfl ⟨rfl,rfl⟩ (by kernel_rfl) rfl more_plain (by kernel_rfl)
end
end Go.Ab
