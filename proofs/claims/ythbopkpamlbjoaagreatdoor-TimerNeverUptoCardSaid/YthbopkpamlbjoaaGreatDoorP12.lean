/- What Go code of this program comes to on a small machine that its translation simulates (a part of the proof of TimerNever). No condition. -/
import Derived.Deep.DeepWitnessRowRef
import Derived.SevenTiedAt
import Derived.Test.YthbopkpamlbjoaaGreatDoorP10
import Derived.Test.YthbopkpamlbjoaaGreatDoorP11
set_option linter.unusedSimpArgs false
set_option linter.unusedVariables false
set_option linter.unusedSectionVars false
set_option maxHeartbeats 4000000
namespace Go.Ab
section
open Go.Proofs.YthbopkpamlbjoaaGreatDoor
open Go.Joins Go.ChangeShapes Go.WideShapes Go.ChangeAt Go.RowKit Go.Deep
open Go.Proofs (Tryz.prog Tryz.checked Tryz.f6 Tryz.func6 Tryz.params6 Tryz.underlying2 Tryz.underlying4)
set_option maxRecDepth 100000
noncomputable def world0 (os:Os):World:=World.laidAll Tryz.prog os Rows.timerNeverUptoRow.laid
noncomputable def args0:Array Value:=#[case0,.int .i64 0,.slice none 0 0,.int .i64 0]
theorem laid_met (os:Os):laidMet Tryz.prog Rows.timerNeverUptoRow.laid ((world0 os).forCall (fun _ _=>0) ⟨#[],args0,[]⟩).memory :=
 laidMet_laidAll _ (by kernel_rfl) (by kernel_rfl)
theorem never_reads (os:Os){H:Type}(enc:TypeId×Value->H):∃places,DataW.whole enc Tryz.prog ((world0 os).forCall (fun _ _=>0) ⟨#[],args0,[]⟩).memory Tryz.f6.params.toList Rows.timerNeverSpec.vars false args0.toList 8 =
  some ([.agg [.agg [.nil,.lit (.int .i64 0),.lit (.int .i64 0),.lit (.bool false),.lit (.bool false),.lit (.bool false),.lit (.string [])],.lit (.string []),.agg (List.replicate 16 (.lit (.int .u8 0))),.agg [.nil,.nil,.nil,.lit (.string [])]],.lit (.int .i64 0),.nil,.lit (.int .i64 0)],[],places) :=
 ⟨[],by kernel_rfl⟩
theorem never_upto (hEnv:EnvGood Rows.timerNeverUptoRow.laid)(os:Os)(started:os.Started)(H:Type)(enc:TypeId×Value->H)(F:Stop.Interp) :
  ReturnsInHanded {} Tryz.checked os 6 .any ((Rows.OpenSpec.upto Rows.timerNeverSpec).preRow enc Tryz.prog Tryz.f6 Rows.timerNeverUptoRow.domain false Rows.timerNeverUptoRow.laid) (((Rows.OpenSpec.upto Rows.timerNeverSpec).at F).post enc Tryz.prog Tryz.f6 false true false false):=by
 obtain⟨places,hx⟩:=never_reads os enc
 refine returnsInHanded_of_row (C:=Tryz.checked) (s:=Rows.OpenSpec.upto Rows.timerNeverSpec) own started (by kernel_rfl) Tryz.func6
  (witness_row_atRef (enc:=enc) (C:=Tryz.checked) false (world0 os) args0 (World.laidAll_os _ _ _) (by kernel_rfl) (by kernel_rfl) (by kernel_rfl)
   (OpenSpec.preRow_of_cond 8 hx (by kernel_rfl) (fun k hk=>by cases hk; kernel_rfl) (by kernel_rfl) (laid_met os))) ?_
 intro W base args ds gs before hval hW _ hcond _ hL hS _;exact never_contract hEnv H enc W base args ds gs before hval hW hL hS (of_decide_eq_true (hcond _ rfl))
theorem never_said (hEnv:EnvGood Rows.timerNeverUptoRow.laid):Rows.TimerNeverUptoSaid :=
 OpenClaim.holds_of_cond 6 Tryz.f6 rfl rfl rfl rfl rfl rfl rfl ⟨rfl,rfl,rfl,rfl,rfl⟩ rfl rfl rfl rfl rfl (by kernel_rfl) Tryz.func6 (joined_of fact6_0 fact6_1 fact6_2 fact6_3 fact6_4 fact6_5 fact6_6 fact6_7 fact6_8 fact6_9 fact6_10 fact6_11 fact6_12 fact6_13 fact6_14 fact6_15 fact6_16 fact6_17 fact6_18 fact6_19 fact6_20 fact6_21 fact6_22 fact6_23 fact6_24 fact6_25 fact6_26 fact6_27 fact6_28 fact6_29 fact6_30 fact6_31)
  (of_decide_eq_true (by kernel_rfl)) (by unfold Func.isWrapper; first | (rw[if_pos (by decide +kernel)]; kernel_rfl) | (rw[if_neg (by decide +kernel)]; exact⟨rfl,rfl⟩))
  (fun os started H enc _ F=>by rw[OpenClaim.pre_eq_preRow]; exact never_upto hEnv os started H enc F)
theorem never_plain (f:FuncId)(fn:Func)(hf:Tryz.pinned.checked.prog.funcNamed "clepsydra/clepsydralaw29.TimerNever" = some f)(hfn:Tryz.pinned.checked.prog.funcs[f]?=some fn) :
  true=Tryz.pinned.checked.prog.looks []/\∀(j:Nat) t,fn.params[j]?=some t->Tryz.pinned.checked.prog.wantsStandIn t=false:=by
 obtain rfl:f=6:=Option.some.inj ((show Tryz.prog.funcNamed "clepsydra/clepsydralaw29.TimerNever" = some 6 by kernel_rfl).symm.trans hf) |>.symm
 obtain rfl:fn=Tryz.f6:=(Option.some.inj (Tryz.func6.symm.trans hfn)).symm;refine⟨by kernel_rfl,fun j t ht=>?_⟩;rw[Tryz.params6] at ht;have hm:t∈[58,2,59,2]:=by simpa using Array.mem_of_getElem? ht
 have hall:([58,2,59,2].all fun u=>!Tryz.prog.wantsStandIn u)=true:=by kernel_rfl
 exact(show Tryz.prog.wantsStandIn t=false by simpa using List.all_eq_true.1 hall t hm)
theorem never_card (hEnv:EnvGood Rows.timerNeverUptoRow.laid):Rows.TimerNeverUptoCardSaid :=
 Claim7.holds_tied_plain_at .later [] _ _ _ _ (never_said hEnv) (fun _ h=>by cases h) (by kernel_rfl) (fun _ h=>by cases h) timerNeverUpto_row_tie rfl ⟨rfl,rfl⟩ (by kernel_rfl) rfl never_plain (by kernel_rfl)
end
end Go.Ab
