/- DueMono's walk: the law answers true at every trigger and whatever is known; bounds are those of the numbers' kinds. -/
import Derived.Test.YtijjfddnfkegbaaGreatWorks
namespace Go.Proofs.YtijjfddnfkegbaaGreat
open Go.RowKit
theorem addOk_no (f s : Int) (h0 : 0 ≤ f) (h1 : f ≤ 9223372036854775807) (h2 : 0 ≤ s) (h3 : s ≤ 9223372036854775807) (h : 9223372036854775807 < f + s) : addOk f s = false := by
  have e : wrap64 (f + s) = f + s - 18446744073709551616 := by unfold wrap64; omega
  unfold addOk
  rw [e, neg01_eq f (by omega) h1, neg01_eq s (by omega) h3, neg01_eq _ (by omega) (by omega), if_neg (by omega), if_neg (by omega), if_pos (by omega)]
  rfl
theorem addOk_yes (f s : Int) (h0 : 0 ≤ f) (h2 : 0 ≤ s) (h : f + s ≤ 9223372036854775807) : addOk f s = true := by
  have e : wrap64 (f + s) = f + s := by unfold wrap64; omega
  unfold addOk
  rw [e, neg01_eq f (by omega) (by omega), neg01_eq s (by omega) (by omega), neg01_eq _ (by omega) (by omega), if_neg (by omega), if_neg (by omega), if_neg (by omega)]
  rfl
theorem addV_yes (f s : Int) (h0 : 0 ≤ f) (h2 : 0 ≤ s) (h : f + s ≤ 9223372036854775807) : addV f s = f + s := by
  unfold addV
  rw [if_pos (addOk_yes f s h0 h2 h)]
  unfold wrap64; omega
/-- is it due, by the law's own tests -/
def isDue (f s k : Int) : Prop := 0 ≤ f ∧ 0 ≤ s ∧ s ≠ 9223372036854775807 ∧ f + s ≤ 9223372036854775807 ∧ k < f + s
theorem due_yes (f s k : Int) (h : isDue f s k) : dueF (some f) s k = some (f + s) := by
  obtain ⟨h1, h2, h3, h4, h5⟩ := h
  have e := addV_yes f s h1 h2 h4
  rw [dueF_yes f s k ⟨addOk_yes f s h1 h2 h4, h1, h2, h3, by rw [e]; exact h5⟩, e]
theorem due_no (f s k : Int) (hf : f ≤ 9223372036854775807) (hs : s ≤ 9223372036854775807) (h : ¬ isDue f s k) : dueF (some f) s k = none := by
  refine dueF_no f s k ?_
  rintro ⟨h1, h2, h3, h4, h5⟩
  by_cases hq : f + s ≤ 9223372036854775807
  · rw [addV_yes f s h2 h3 hq] at h5
    exact h ⟨h2, h3, h4, hq, h5⟩
  · rw [addOk_no f s h2 hf h3 hs (by omega)] at h1
    cases h1
set_option maxRecDepth 100000 in
set_option maxHeartbeats 1000000 in
theorem mono_cal (span : Int) (t : ByteArray) (k1 k2 k3 k4 k5 k6 : Int) (w : World) :
    Calls Tryz.prog 3 #[.agg #[.int .u8 1, .int .i64 span, .string t], .agg #[.int .i64 k1, .int .i64 k2, .int .i64 k3, .int .i64 k4, .int .i64 k5, .int .i64 k6]] w (RetB w true) := by
  go_enter Tryz.func3, Tryz.ntmps3
  go_wp2_with fail
  refine (works_any _).mono ?_
  rintro e w1 ⟨rfl, hb1⟩
  go_wp2_with fail
  go_ret
  exact ⟨rfl, (Grow.via (Grow.alloc (Grow.alloc (Grow.refl _) _) _) hb1).1⟩
set_option maxRecDepth 100000 in
set_option maxHeartbeats 1000000 in
theorem mono_none (kind span : Int) (t : ByteArray) (k1 k2 k3 k4 k5 k6 : Int) (w : World) (hk : (kind == 1) = false) (hfr : fromOf kind k1 k2 k3 k4 = none) :
    Calls Tryz.prog 3 #[.agg #[.int .u8 kind, .int .i64 span, .string t], .agg #[.int .i64 k1, .int .i64 k2, .int .i64 k3, .int .i64 k4, .int .i64 k5, .int .i64 k6]] w (RetB w true) := by
  have H := Lib.hid hfr
  clear hfr
  go_enter Tryz.func3, Tryz.ntmps3
  go_wp2_with fail
  refine (of_none kind span t k1 k2 k3 k4 k5 k6 _ hk H.out).mono ?_
  rintro e w1 ⟨rfl, hb1⟩
  obtain ⟨hc1, hf1⟩ := bcell hb1
  have hz : w.heap.size + 1 < w1.heap.size := by have := hb1.size; simp at this; omega
  have hz0 : w.heap.size < w1.heap.size := by omega
  have T0 : w1.cell? ⟨w.heap.size, 0, none⟩ = some (.int .u8 kind) := by rw [hc1 _ _ (by simp <;> omega)]; rw [World.cell?_alloc_past _ _ _ (by simp), World.cell?_alloc_at _ _ _ _ rfl]; rfl
  have T1 : w1.cell? ⟨w.heap.size, 1, none⟩ = some (.int .i64 span) := by rw [hc1 _ _ (by simp <;> omega)]; rw [World.cell?_alloc_past _ _ _ (by simp), World.cell?_alloc_at _ _ _ _ rfl]; rfl
  have T2 : w1.cell? ⟨w.heap.size, 2, none⟩ = some (.string t) := by rw [hc1 _ _ (by simp <;> omega)]; rw [World.cell?_alloc_past _ _ _ (by simp), World.cell?_alloc_at _ _ _ _ rfl]; rfl
  have K0 : w1.cell? ⟨w.heap.size + 1, 0, none⟩ = some (.int .i64 k1) := by rw [hc1 _ _ (by simp)]; simp [go_sem]
  have K1 : w1.cell? ⟨w.heap.size + 1, 1, none⟩ = some (.int .i64 k2) := by rw [hc1 _ _ (by simp)]; simp [go_sem]
  have K2 : w1.cell? ⟨w.heap.size + 1, 2, none⟩ = some (.int .i64 k3) := by rw [hc1 _ _ (by simp)]; simp [go_sem]
  have K3 : w1.cell? ⟨w.heap.size + 1, 3, none⟩ = some (.int .i64 k4) := by rw [hc1 _ _ (by simp)]; simp [go_sem]
  have K4 : w1.cell? ⟨w.heap.size + 1, 4, none⟩ = some (.int .i64 k5) := by rw [hc1 _ _ (by simp)]; simp [go_sem]
  have K5 : w1.cell? ⟨w.heap.size + 1, 5, none⟩ = some (.int .i64 k6) := by rw [hc1 _ _ (by simp)]; simp [go_sem]
  clear hc1 hf1
  go_wp2_with fail
  refine (begins_any kind k1 k2 k3 k4 k5 k6 _).mono ?_
  rw [H.out]
  rintro e w2 ⟨rfl, hb2⟩
  obtain ⟨hc2, hf2⟩ := bcell hb2
  go_wp2_with fail
  refine (works_any _).mono ?_
  rintro e w3 ⟨rfl, hb3⟩
  go_wp2_with fail
  go_ret
  exact ⟨rfl, (Grow.via (Grow.via (Grow.alloc (Grow.via (Grow.alloc (Grow.alloc (Grow.refl _) _) _) hb1) _) hb2) hb3).1⟩
set_option maxRecDepth 100000 in
set_option maxHeartbeats 1000000 in
theorem mono_yes (kind span : Int) (t : ByteArray) (k1 k2 k3 k4 k5 k6 f : Int) (w : World) (hk : (kind == 1) = false) (hfr : fromOf kind k1 k2 k3 k4 = some f) (hd : isDue f span k6) :
    Calls Tryz.prog 3 #[.agg #[.int .u8 kind, .int .i64 span, .string t], .agg #[.int .i64 k1, .int .i64 k2, .int .i64 k3, .int .i64 k4, .int .i64 k5, .int .i64 k6]] w (RetB w true) := by
  have H := Lib.hid hfr
  clear hfr
  have D := Lib.hid (due_yes f span k6 hd)
  obtain ⟨q1, q2, q3, q4, q5⟩ := hd
  go_enter Tryz.func3, Tryz.ntmps3
  go_wp2_with fail
  refine (of_some kind span t k1 k2 k3 k4 k5 k6 f _ hk H.out).mono ?_
  rw [D.out]
  rintro e w1 ⟨rfl, hb1⟩
  obtain ⟨hc1, hf1⟩ := bcell hb1
  have hz : w.heap.size + 1 < w1.heap.size := by have := hb1.size; simp at this; omega
  have hz0 : w.heap.size < w1.heap.size := by omega
  have T0 : w1.cell? ⟨w.heap.size, 0, none⟩ = some (.int .u8 kind) := by rw [hc1 _ _ (by simp <;> omega)]; rw [World.cell?_alloc_past _ _ _ (by simp), World.cell?_alloc_at _ _ _ _ rfl]; rfl
  have T1 : w1.cell? ⟨w.heap.size, 1, none⟩ = some (.int .i64 span) := by rw [hc1 _ _ (by simp <;> omega)]; rw [World.cell?_alloc_past _ _ _ (by simp), World.cell?_alloc_at _ _ _ _ rfl]; rfl
  have T2 : w1.cell? ⟨w.heap.size, 2, none⟩ = some (.string t) := by rw [hc1 _ _ (by simp <;> omega)]; rw [World.cell?_alloc_past _ _ _ (by simp), World.cell?_alloc_at _ _ _ _ rfl]; rfl
  have K0 : w1.cell? ⟨w.heap.size + 1, 0, none⟩ = some (.int .i64 k1) := by rw [hc1 _ _ (by simp)]; simp [go_sem]
  have K1 : w1.cell? ⟨w.heap.size + 1, 1, none⟩ = some (.int .i64 k2) := by rw [hc1 _ _ (by simp)]; simp [go_sem]
  have K2 : w1.cell? ⟨w.heap.size + 1, 2, none⟩ = some (.int .i64 k3) := by rw [hc1 _ _ (by simp)]; simp [go_sem]
  have K3 : w1.cell? ⟨w.heap.size + 1, 3, none⟩ = some (.int .i64 k4) := by rw [hc1 _ _ (by simp)]; simp [go_sem]
  have K4 : w1.cell? ⟨w.heap.size + 1, 4, none⟩ = some (.int .i64 k5) := by rw [hc1 _ _ (by simp)]; simp [go_sem]
  have K5 : w1.cell? ⟨w.heap.size + 1, 5, none⟩ = some (.int .i64 k6) := by rw [hc1 _ _ (by simp)]; simp [go_sem]
  clear hc1 hf1
  go_wp2_with fail
  refine (begins_any kind k1 k2 k3 k4 k5 k6 _).mono ?_
  rw [H.out]
  rintro e w2 ⟨rfl, hb2⟩
  obtain ⟨hc2, hf2⟩ := bcell hb2
  go_wp2_with fail
  · exfalso
    have hw : (((f < 0 ∨ span < 0) ∨ (span == 9223372036854775807) = true) ∨ 9223372036854775807 - f < span) ∨ f + span ≤ k6 := by assumption
    simp only [beq_iff_eq] at hw
    omega
  · refine (works_any _).mono ?_
    rintro e w3 ⟨rfl, hb3⟩
    go_wp2_with fail
    go_ret
    exact ⟨rfl, (Grow.via (Grow.via (Grow.alloc (Grow.via (Grow.alloc (Grow.alloc (Grow.refl _) _) _) hb1) _) hb2) hb3).1⟩
set_option maxRecDepth 100000 in
set_option maxHeartbeats 1000000 in
theorem mono_no (kind span : Int) (t : ByteArray) (k1 k2 k3 k4 k5 k6 f : Int) (w : World) (hk : (kind == 1) = false) (hfr : fromOf kind k1 k2 k3 k4 = some f) (hf : f ≤ 9223372036854775807) (hs : span ≤ 9223372036854775807) (hd : ¬ isDue f span k6) :
    Calls Tryz.prog 3 #[.agg #[.int .u8 kind, .int .i64 span, .string t], .agg #[.int .i64 k1, .int .i64 k2, .int .i64 k3, .int .i64 k4, .int .i64 k5, .int .i64 k6]] w (RetB w true) := by
  have H := Lib.hid hfr
  clear hfr
  have D := Lib.hid (due_no f span k6 hf hs hd)
  have N := Lib.hid hd
  clear hd
  go_enter Tryz.func3, Tryz.ntmps3
  go_wp2_with fail
  refine (of_some kind span t k1 k2 k3 k4 k5 k6 f _ hk H.out).mono ?_
  rw [D.out]
  rintro e w1 ⟨rfl, hb1⟩
  obtain ⟨hc1, hf1⟩ := bcell hb1
  have hz : w.heap.size + 1 < w1.heap.size := by have := hb1.size; simp at this; omega
  have hz0 : w.heap.size < w1.heap.size := by omega
  have T0 : w1.cell? ⟨w.heap.size, 0, none⟩ = some (.int .u8 kind) := by rw [hc1 _ _ (by simp <;> omega)]; rw [World.cell?_alloc_past _ _ _ (by simp), World.cell?_alloc_at _ _ _ _ rfl]; rfl
  have T1 : w1.cell? ⟨w.heap.size, 1, none⟩ = some (.int .i64 span) := by rw [hc1 _ _ (by simp <;> omega)]; rw [World.cell?_alloc_past _ _ _ (by simp), World.cell?_alloc_at _ _ _ _ rfl]; rfl
  have T2 : w1.cell? ⟨w.heap.size, 2, none⟩ = some (.string t) := by rw [hc1 _ _ (by simp <;> omega)]; rw [World.cell?_alloc_past _ _ _ (by simp), World.cell?_alloc_at _ _ _ _ rfl]; rfl
  have K0 : w1.cell? ⟨w.heap.size + 1, 0, none⟩ = some (.int .i64 k1) := by rw [hc1 _ _ (by simp)]; simp [go_sem]
  have K1 : w1.cell? ⟨w.heap.size + 1, 1, none⟩ = some (.int .i64 k2) := by rw [hc1 _ _ (by simp)]; simp [go_sem]
  have K2 : w1.cell? ⟨w.heap.size + 1, 2, none⟩ = some (.int .i64 k3) := by rw [hc1 _ _ (by simp)]; simp [go_sem]
  have K3 : w1.cell? ⟨w.heap.size + 1, 3, none⟩ = some (.int .i64 k4) := by rw [hc1 _ _ (by simp)]; simp [go_sem]
  have K4 : w1.cell? ⟨w.heap.size + 1, 4, none⟩ = some (.int .i64 k5) := by rw [hc1 _ _ (by simp)]; simp [go_sem]
  have K5 : w1.cell? ⟨w.heap.size + 1, 5, none⟩ = some (.int .i64 k6) := by rw [hc1 _ _ (by simp)]; simp [go_sem]
  clear hc1 hf1
  go_wp2_with fail
  refine (begins_any kind k1 k2 k3 k4 k5 k6 _).mono ?_
  rw [H.out]
  rintro e w2 ⟨rfl, hb2⟩
  obtain ⟨hc2, hf2⟩ := bcell hb2
  go_wp2_with fail
  all_goals
    first
    | (refine (works_any _).mono ?_
       rintro e w3 ⟨rfl, hb3⟩
       go_wp2_with fail
       go_ret
       exact ⟨rfl, (Grow.via (Grow.via (Grow.alloc (Grow.via (Grow.alloc (Grow.alloc (Grow.refl _) _) _) hb1) _) hb2) hb3).1⟩)
    | (exfalso
       have hw : (((0 ≤ f ∧ 0 ≤ span) ∧ (span == 9223372036854775807) = false) ∧ span ≤ 9223372036854775807 - f) ∧ k6 < f + span := by assumption
       obtain ⟨⟨⟨⟨w1, w2⟩, w3⟩, w4⟩, w5⟩ := hw
       simp only [beq_eq_false_iff_ne, ne_eq] at w3
       exact N.out ⟨w1, w2, w3, by omega, w5⟩)
theorem mono_any (kind span : Int) (t : ByteArray) (k1 k2 k3 k4 k5 k6 : Int) (w : World) (hs : span ≤ 9223372036854775807) (h1 : k1 ≤ 9223372036854775807) (h2 : k2 ≤ 9223372036854775807) (h3 : k3 ≤ 9223372036854775807) (h4 : k4 ≤ 9223372036854775807) :
    Calls Tryz.prog 3 #[.agg #[.int .u8 kind, .int .i64 span, .string t], .agg #[.int .i64 k1, .int .i64 k2, .int .i64 k3, .int .i64 k4, .int .i64 k5, .int .i64 k6]] w (RetB w true) := by
  by_cases hk : kind = 1
  · subst hk; exact mono_cal span t k1 k2 k3 k4 k5 k6 w
  · have hk' : (kind == 1) = false := by simpa using hk
    cases hfr : fromOf kind k1 k2 k3 k4 with
    | none => exact mono_none kind span t k1 k2 k3 k4 k5 k6 w hk' hfr
    | some f =>
      by_cases hd : isDue f span k6
      · exact mono_yes kind span t k1 k2 k3 k4 k5 k6 f w hk' hfr hd
      · refine mono_no kind span t k1 k2 k3 k4 k5 k6 f w hk' hfr ?_ hs hd
        unfold fromOf at hfr
        split at hfr
        · cases hfr; exact h2
        split at hfr
        · cases hfr; decide
        split at hfr
        · cases hfr; exact h1
        split at hfr
        · cases hfr; exact h3
        split at hfr
        · cases hfr; exact h4
        · cases hfr
end Go.Proofs.YtijjfddnfkegbaaGreat
