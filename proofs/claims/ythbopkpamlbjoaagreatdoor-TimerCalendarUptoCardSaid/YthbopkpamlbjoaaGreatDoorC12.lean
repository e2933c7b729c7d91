/- What Go code of this program comes to on a small machine that its translation simulates (a part of the proof of a law of its timers). No condition. -/
import Derived.Deep.DeepWitnessRowRef
import Derived.SevenTiedAt
import Derived.Test.YthbopkpamlbjoaaGreatDoorC10
import Derived.Test.YthbopkpamlbjoaaGreatDoorC11
set_option linter.unusedSimpArgs false
set_option linter.unusedVariables false
set_option linter.unusedSectionVars false
set_option maxHeartbeats 4000000
namespace Go.Ab
section
open Go.Proofs.YthbopkpamlbjoaaGreatDoor
open Go.Joins Go.ChangeShapes Go.WideShapes Go.ChangeAt Go.RowKit Go.Deep
open Go.Proofs (Tryz.prog Tryz.checked Tryz.f4 Tryz.func4 Tryz.params4 Tryz.underlying2 Tryz.underlying4)
set_option maxRecDepth 100000
noncomputable def worldC (os:Os):World:=World.laidAll Tryz.prog os Rows.timerCalendarUptoRow.laid
noncomputable def argsC:Array Value:=#[case0,.string ⟨#[]⟩,.int .i64 0,.slice none 0 0]
theorem laidC_met (os:Os):laidMet Tryz.prog Rows.timerCalendarUptoRow.laid ((worldC os).forCall (fun _ _=>0) ⟨#[],argsC,[]⟩).memory :=
 laidMet_laidAll _ (by kernel_rfl) (by kernel_rfl)
theorem cal_reads (os:Os){H:Type}(enc:TypeId×Value->H):∃places,DataW.whole enc Tryz.prog ((worldC os).forCall (fun _ _=>0) ⟨#[],argsC,[]⟩).memory Tryz.f4.params.toList Rows.timerCalendarSpec.vars false argsC.toList 8 =
  some ([.agg [.agg [.nil,.lit (.int .i64 0),.lit (.int .i64 0),.lit (.bool false),.lit (.bool false),.lit (.bool false),.lit (.string [])],.lit (.string []),.agg (List.replicate 16 (.lit (.int .u8 0))),.agg [.nil,.nil,.nil,.lit (.string [])]],.lit (.string []),.lit (.int .i64 0),.nil],[],places) :=
 ⟨[],by kernel_rfl⟩
theorem cal_upto (hEnv:EnvGood Rows.timerCalendarUptoRow.laid)(os:Os)(started:os.Started)(H:Type)(enc:TypeId×Value->H)(F:Stop.Interp) :
  ReturnsInHanded {} Tryz.checked os 4 .any ((Rows.OpenSpec.upto Rows.timerCalendarSpec).preRow enc Tryz.prog Tryz.f4 Rows.timerCalendarUptoRow.domain false Rows.timerCalendarUptoRow.laid) (((Rows.OpenSpec.upto Rows.timerCalendarSpec).at F).post enc Tryz.prog Tryz.f4 false true false false):=by
 obtain⟨places,hx⟩:=cal_reads os enc
 refine returnsInHanded_of_row (C:=Tryz.checked) (s:=Rows.OpenSpec.upto Rows.timerCalendarSpec) own started (by kernel_rfl) Tryz.func4
  (witness_row_atRef (enc:=enc) (C:=Tryz.checked) false (worldC os) argsC (World.laidAll_os _ _ _) (by kernel_rfl) (by kernel_rfl) (by kernel_rfl)
   (OpenSpec.preRow_of_cond 8 hx (by kernel_rfl) (fun k hk=>by cases hk; kernel_rfl) (by kernel_rfl) (laidC_met os))) ?_
 intro W base args ds gs before hval hW _ hcond _ hL hS _;exact cal_contract hEnv H enc W base args ds gs before hval hW hL hS (of_decide_eq_true (hcond _ rfl))
theorem cal_said (hEnv:EnvGood Rows.timerCalendarUptoRow.laid):Rows.TimerCalendarUptoSaid :=
 OpenClaim.holds_of_cond 4 Tryz.f4 rfl rfl rfl rfl rfl rfl rfl ⟨rfl,rfl,rfl,rfl,rfl⟩ rfl rfl rfl rfl rfl (by kernel_rfl) Tryz.func4 (joined_of fact4_0 fact4_1 fact4_2 fact4_3 fact4_4 fact4_5 fact4_6 fact4_7 fact4_8 fact4_9 fact4_10 fact4_11 fact4_12 fact4_13 fact4_14 fact4_15 fact4_16 fact4_17 fact4_18 fact4_19 fact4_20 fact4_21 fact4_22 fact4_23 fact4_24 fact4_25 fact4_26 fact4_27 fact4_28 fact4_29 fact4_30 fact4_31)
  (of_decide_eq_true (by kernel_rfl)) (by unfold Func.isWrapper; first | (rw[if_pos (by decide +kernel)]; kernel_rfl) | (rw[if_neg (by decide +kernel)]; exact⟨rfl,rfl⟩))
  (fun os started H enc _ F=>by rw[OpenClaim.pre_eq_preRow]; exact cal_upto hEnv os started H enc F)
theorem cal_plain (f:FuncId)(fn:Func)(hf:Tryz.pinned.checked.prog.funcNamed "clepsydra/clepsydralaw29.TimerCalendar" = some f)(hfn:Tryz.pinned.checked.prog.funcs[f]?=some fn) :
  true=Tryz.pinned.checked.prog.looks []/\∀(j:Nat) t,fn.params[j]?=some t->Tryz.pinned.checked.prog.wantsStandIn t=false:=by
 obtain rfl:f=4:=Option.some.inj ((show Tryz.prog.funcNamed "clepsydra/clepsydralaw29.TimerCalendar" = some 4 by kernel_rfl).symm.trans hf) |>.symm
 obtain rfl:fn=Tryz.f4:=(Option.some.inj (Tryz.func4.symm.trans hfn)).symm;refine⟨by kernel_rfl,fun j t ht=>?_⟩;rw[Tryz.params4] at ht;have hm:t∈[58,9,2,59]:=by simpa using Array.mem_of_getElem? ht
 have hall:([58,9,2,59].all fun u=>!Tryz.prog.wantsStandIn u)=true:=by kernel_rfl
 exact(show Tryz.prog.wantsStandIn t=false by simpa using List.all_eq_true.1 hall t hm)
theorem cal_card (hEnv:EnvGood Rows.timerCalendarUptoRow.laid):Rows.TimerCalendarUptoCardSaid :=
 Claim7.holds_tied_plain_at .later [] _ _ _ _ (cal_said hEnv) (fun _ h=>by cases h) (by kernel_rfl) (fun _ h=>by cases h) timerCalendarUpto_row_tie rfl ⟨rfl,rfl⟩ (by kernel_rfl) rfl cal_plain (by kernel_rfl)
end
end Go.Ab
