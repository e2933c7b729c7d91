/- The machine's side of the laws of layer 28, second part: where a trigger begins, due.From, the chapter's examples ('works' answers true). No condition. -/
import Derived.Test.YtijjfddnfkegbaaGreatDue
import Derived.Deep.QuietTactic
import Derived.BigQuiet
import Derived.Lib.Hide
namespace Go.Proofs.YtijjfddnfkegbaaGreat
open Go.RowKit
def RetB (w : World) (b : Bool) (e : Ending) (w' : World) : Prop := e = .returned (.bool b) ∧ Below w.heap.size w w'
def RetFrom (w : World) (r : Option Int) (e : Ending) (w' : World) : Prop := e = .returned (.tuple #[.int .i64 (r.getD 0), .bool r.isSome]) ∧ Below w.heap.size w w'
theorem retFrom_some {w w' : World} (n : Int) {r : Option Int} (hr : r = some n) (h : Below w.heap.size w w') : RetFrom w r (.returned (.tuple #[.int .i64 n, .bool true])) w' := by subst hr; exact ⟨rfl, h⟩
theorem retFrom_none {w w' : World} {r : Option Int} (hr : r = none) (h : Below w.heap.size w w') : RetFrom w r (.returned (.tuple #[.int .i64 0, .bool false])) w' := by subst hr; exact ⟨rfl, h⟩
theorem begins_any (kind k1 k2 k3 k4 k5 k6 : Int) (w : World) : Calls Tryz.prog 7 #[.int .u8 kind, .agg #[.int .i64 k1, .int .i64 k2, .int .i64 k3, .int .i64 k4, .int .i64 k5, .int .i64 k6]] w (RetFrom w (fromOf kind k1 k2 k3 k4)) := by
  go_enter Tryz.func7, Tryz.ntmps7
  go_wp2_with fail
  all_goals
    go_ret2
    simp only [beq_iff_eq, beq_eq_false_iff_ne, ne_eq] at *
    first
    | exact retFrom_some _ (by simp [fromOf, *]) ((Below.refl _ _).alloc (Nat.le_refl _) _)
    | exact retFrom_none (by simp [fromOf, *]) ((Below.refl _ _).alloc (Nat.le_refl _) _)
theorem from_neg (a s : Int) (w : World) (h : s < 0) : Calls Tryz.prog 8 #[.int .i64 a, .int .i64 s] w fun e w' => e = .returned (.int .i64 a) ∧ w = w' := by
  go_enter Tryz.func8, Tryz.ntmps8
  go_wp2_with fail
  go_ret
  exact ⟨rfl, rfl⟩
theorem from_pos (a s m : Int) (w : World) (h : 0 ≤ s) (hm : m = min a s) : Calls Tryz.prog 8 #[.int .i64 a, .int .i64 s] w fun e w' => e = .returned (.int .i64 m) ∧ w = w' := by
  have H := Lib.hid hm
  clear hm
  go_enter Tryz.func8, Tryz.ntmps8
  go_wp2_with fail
  all_goals
    go_ret
    refine ⟨?_, rfl⟩
    rw [H.out]
    exact congrArg (fun n => Ending.returned (.int .i64 n)) (by omega)
theorem bcell {W w1 : World} (hb : Below W.heap.size W w1) : (∀ b o, b < W.heap.size → w1.cell? ⟨b, o, none⟩ = W.cell? ⟨b, o, none⟩) ∧ (∀ b o, b < W.heap.size → w1.frozen? ⟨b, o, none⟩ = W.frozen? ⟨b, o, none⟩) :=
  ⟨fun b o h => hb.cell (p := ⟨b, o, none⟩) h, fun b o h => hb.frozen (p := ⟨b, o, none⟩) h⟩
def Grow (n : Nat) (w W : World) : Prop := Below n w W ∧ n ≤ W.heap.size
theorem Grow.of {w W : World} (h : Below w.heap.size w W) : Grow w.heap.size w W := ⟨h, h.size⟩
theorem Grow.refl (w : World) : Grow w.heap.size w w := ⟨Below.refl _ _, Nat.le_refl _⟩
theorem Grow.alloc {n : Nat} {w W : World} (h : Grow n w W) (o : Obj) : Grow n w (W.alloc o) := ⟨h.1.alloc h.2 o, by have := h.2; simp; omega⟩
theorem Grow.via {n : Nat} {w W W1 : World} (h : Grow n w W) (hb : Below W.heap.size W W1) : Grow n w W1 := ⟨h.1.trans (hb.mono h.2), Nat.le_trans h.2 hb.size⟩
theorem d1 : dueF (some 0) 5 (-1) = some 5 := by decide +kernel
theorem d2 : dueF (some 0) 5 5 = none := by decide +kernel
theorem d3 : dueF (some (-1)) 5 (-1) = none := by decide +kernel
set_option maxRecDepth 100000 in
set_option maxHeartbeats 1000000 in
theorem works_any (w : World) : Calls Tryz.prog 5 #[] w (RetB w true) := by
  go_enter Tryz.func5, Tryz.ntmps5
  go_wp2_with fail
  refine (of_some 3 5 ⟨#[]⟩ 0 0 0 0 0 (-1) 0 _ rfl rfl).mono ?_
  rw [d1]
  rintro e w1 ⟨rfl, hb1⟩
  obtain ⟨hc1, hf1⟩ := bcell hb1
  go_wp2_with fail
  refine (of_some 3 5 ⟨#[]⟩ 0 0 0 0 0 5 0 _ rfl rfl).mono ?_
  rw [d2]
  rintro e w2 ⟨rfl, hb2⟩
  obtain ⟨hc2, hf2⟩ := bcell hb2
  go_wp2_with fail
  refine (of_some 5 5 ⟨#[]⟩ 0 0 (-1) 0 0 (-1) (-1) _ rfl rfl).mono ?_
  rw [d3]
  rintro e w3 ⟨rfl, hb3⟩
  obtain ⟨hc3, hf3⟩ := bcell hb3
  have hz2 : w1.heap.size < w2.heap.size := by have := hb2.size; simp at this; omega
  have hz3 : w2.heap.size < w3.heap.size := by have := hb3.size; simp at this; omega
  have hz13 : w1.heap.size < w3.heap.size := by omega
  have hz12 : w1.heap.size ≤ w2.heap.size := by omega
  have hA0 : w3.cell? ⟨w1.heap.size, 0, none⟩ = some (.bool false) := by
    rw [hc3 _ _ (by simp; omega), World.cell?_alloc_past _ _ _ hz2, hc2 _ _ (by simp), World.cell?_alloc_at _ _ _ _ rfl]
    rfl
  have hA1 : w3.cell? ⟨w1.heap.size, 1, none⟩ = some (.int .i64 5) := by
    rw [hc3 _ _ (by simp; omega), World.cell?_alloc_past _ _ _ hz2, hc2 _ _ (by simp), World.cell?_alloc_at _ _ _ _ rfl]
    rfl
  clear hc1 hc2 hc3 hf1 hf2 hf3
  go_wp2_with fail
  refine (from_neg 100 (-1) _ (by decide)).mono ?_
  rintro e w4 ⟨rfl, rfl⟩
  go_wp2_with fail
  refine (from_pos 100 40 40 _ (by decide) (by decide)).mono ?_
  rintro e w4 ⟨rfl, rfl⟩
  go_wp2_with fail
  refine (from_pos 100 300 100 _ (by decide) (by decide)).mono ?_
  rintro e w4 ⟨rfl, rfl⟩
  go_wp2_with fail
  go_ret
  refine ⟨rfl, ?_⟩
  exact (Grow.alloc (Grow.via (Grow.alloc (Grow.via (Grow.alloc (Grow.of hb1) _) hb2) _) hb3) _).1
end Go.Proofs.YtijjfddnfkegbaaGreat
