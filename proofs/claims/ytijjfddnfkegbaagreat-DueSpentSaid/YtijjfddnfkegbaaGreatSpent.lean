/- DueSpent's walk: the law answers true at every trigger, whatever is known, and however much it moves on; bounds are those of the numbers' kinds. -/
import Derived.Test.YtijjfddnfkegbaaGreatMono

namespace Go.Proofs.YtijjfddnfkegbaaGreat
open Go.RowKit
theorem Grow.set {n : Nat} {w W : World} (h : Grow n w W) {p : Addr} (hp : n ≤ p.block) (u : Value) : Grow n w (W.setCell p u) := ⟨h.1.setCell hp u, by have := h.2; simp; omega⟩
theorem fromOf_shift (kind k1 k2 k3 k4 f : Int) (g : Int → Int) (h3 : kind ≠ 3) (hfr : fromOf kind k1 k2 k3 k4 = some f) : fromOf kind (g k1) (g k2) (g k3) (g k4) = some (g f) := by
  unfold fromOf at hfr ⊢
  by_cases e2 : kind = 2
  · rw [if_pos e2] at hfr ⊢; cases hfr; rfl
  rw [if_neg e2, if_neg h3] at hfr ⊢
  by_cases e4 : kind = 4
  · rw [if_pos e4] at hfr ⊢; cases hfr; rfl
  rw [if_neg e4] at hfr ⊢
  by_cases e5 : kind = 5
  · rw [if_pos e5] at hfr ⊢; cases hfr; rfl
  rw [if_neg e5] at hfr ⊢
  by_cases e6 : kind = 6
  · rw [if_pos e6] at hfr ⊢; cases hfr; rfl
  · rw [if_neg e6] at hfr; cases hfr
set_option maxRecDepth 100000 in
set_option maxHeartbeats 1000000 in
theorem spent_cal (span : Int) (t : ByteArray) (k1 k2 k3 k4 k5 k6 more : Int) (w : World) :
    Calls Tryz.prog 4 #[.agg #[.int .u8 1, .int .i64 span, .string t], .agg #[.int .i64 k1, .int .i64 k2, .int .i64 k3, .int .i64 k4, .int .i64 k5, .int .i64 k6], .int .u32 more] w (RetB w true) := by
  go_enter Tryz.func4, Tryz.ntmps4
  go_wp2_with fail
  refine (works_any _).mono ?_
  rintro e w1 ⟨rfl, hb1⟩
  go_wp2_with fail
  go_ret
  exact ⟨rfl, (Grow.via (Grow.alloc (Grow.alloc (Grow.refl _) _) _) hb1).1⟩
set_option maxRecDepth 100000 in
set_option maxHeartbeats 1000000 in
theorem spent_none (kind span : Int) (t : ByteArray) (k1 k2 k3 k4 k5 k6 more : Int) (w : World) (hk : (kind == 1) = false) (hfr : fromOf kind k1 k2 k3 k4 = none) :
    Calls Tryz.prog 4 #[.agg #[.int .u8 kind, .int .i64 span, .string t], .agg #[.int .i64 k1, .int .i64 k2, .int .i64 k3, .int .i64 k4, .int .i64 k5, .int .i64 k6], .int .u32 more] w (RetB w true) := by
  have H := Lib.hid hfr
  clear hfr
  go_enter Tryz.func4, Tryz.ntmps4
  go_wp2_with fail
  refine (of_none kind span t k1 k2 k3 k4 k5 k6 _ hk H.out).mono ?_
  rintro e w1 ⟨rfl, hb1⟩
  go_wp2_with fail
  refine (works_any _).mono ?_
  rintro e w3 ⟨rfl, hb3⟩
  go_wp2_with fail
  go_ret
  exact ⟨rfl, (Grow.via (Grow.alloc (Grow.via (Grow.alloc (Grow.alloc (Grow.refl _) _) _) hb1) _) hb3).1⟩
set_option maxRecDepth 100000 in
set_option maxHeartbeats 1000000 in
theorem spent_no (kind span : Int) (t : ByteArray) (k1 k2 k3 k4 k5 k6 f more : Int) (w : World) (hk : (kind == 1) = false) (hfr : fromOf kind k1 k2 k3 k4 = some f) (hd : dueF (some f) span k6 = none) :
    Calls Tryz.prog 4 #[.agg #[.int .u8 kind, .int .i64 span, .string t], .agg #[.int .i64 k1, .int .i64 k2, .int .i64 k3, .int .i64 k4, .int .i64 k5, .int .i64 k6], .int .u32 more] w (RetB w true) := by
  have H := Lib.hid hfr
  have D := Lib.hid hd
  clear hfr hd
  go_enter Tryz.func4, Tryz.ntmps4
  go_wp2_with fail
  refine (of_some kind span t k1 k2 k3 k4 k5 k6 f _ hk H.out).mono ?_
  rw [D.out]
  rintro e w1 ⟨rfl, hb1⟩
  go_wp2_with fail
  refine (works_any _).mono ?_
  rintro e w3 ⟨rfl, hb3⟩
  go_wp2_with fail
  go_ret
  exact ⟨rfl, (Grow.via (Grow.alloc (Grow.via (Grow.alloc (Grow.alloc (Grow.refl _) _) _) hb1) _) hb3).1⟩
set_option maxRecDepth 100000 in
set_option maxHeartbeats 1000000 in
theorem spent_yes (kind span : Int) (t : ByteArray) (k1 k2 k3 k4 k5 k6 f more : Int) (w : World) (hk : (kind == 1) = false) (hfr : fromOf kind k1 k2 k3 k4 = some f) (hd : isDue f span k6) (hs : span ≤ 9223372036854775807) (hf : f ≤ 9223372036854775807) (hm0 : 0 ≤ more) (hm1 : more ≤ 4294967295) :
    Calls Tryz.prog 4 #[.agg #[.int .u8 kind, .int .i64 span, .string t], .agg #[.int .i64 k1, .int .i64 k2, .int .i64 k3, .int .i64 k4, .int .i64 k5, .int .i64 k6], .int .u32 more] w (RetB w true) := by
  have H := Lib.hid hfr
  have D := Lib.hid (due_yes f span k6 hd)
  have D2 := Lib.hid (due_no f span (f + span) hf hs (fun h => by have := h.2.2.2.2; omega))
  obtain ⟨q1, q2, q3, q4, q5⟩ := hd
  clear hfr
  go_enter Tryz.func4, Tryz.ntmps4
  go_wp2_with fail
  refine (of_some kind span t k1 k2 k3 k4 k5 k6 f _ hk H.out).mono ?_
  rw [D.out]
  rintro e w1 ⟨rfl, hb1⟩
  obtain ⟨hc1, hf1⟩ := bcell hb1
  have hz : w.heap.size + 1 < w1.heap.size := by have := hb1.size; simp at this; omega
  have hz0 : w.heap.size < w1.heap.size := by omega
  have T0 : w1.cell? ⟨w.heap.size, 0, none⟩ = some (.int .u8 kind) := by rw [hc1 _ _ (by simp <;> omega)]; rw [World.cell?_alloc_past _ _ _ (by simp), World.cell?_alloc_at _ _ _ _ rfl]; rfl
  have T1 : w1.cell? ⟨w.heap.size, 1, none⟩ = some (.int .i64 span) := by rw [hc1 _ _ (by simp <;> omega)]; rw [World.cell?_alloc_past _ _ _ (by simp), World.cell?_alloc_at _ _ _ _ rfl]; rfl
  have T2 : w1.cell? ⟨w.heap.size, 2, none⟩ = some (.string t) := by rw [hc1 _ _ (by simp <;> omega)]; rw [World.cell?_alloc_past _ _ _ (by simp), World.cell?_alloc_at _ _ _ _ rfl]; rfl
  have K0 : w1.cell? ⟨w.heap.size + 1, 0, none⟩ = some (.int .i64 k1) := by rw [hc1 _ _ (by simp)]; simp [go_sem]
  have K1 : w1.cell? ⟨w.heap.size + 1, 1, none⟩ = some (.int .i64 k2) := by rw [hc1 _ _ (by simp)]; simp [go_sem]
  have K2 : w1.cell? ⟨w.heap.size + 1, 2, none⟩ = some (.int .i64 k3) := by rw [hc1 _ _ (by simp)]; simp [go_sem]
  have K3 : w1.cell? ⟨w.heap.size + 1, 3, none⟩ = some (.int .i64 k4) := by rw [hc1 _ _ (by simp)]; simp [go_sem]
  have K4 : w1.cell? ⟨w.heap.size + 1, 4, none⟩ = some (.int .i64 k5) := by rw [hc1 _ _ (by simp)]; simp [go_sem]
  have K5 : w1.cell? ⟨w.heap.size + 1, 5, none⟩ = some (.int .i64 k6) := by rw [hc1 _ _ (by simp)]; simp [go_sem]
  clear hc1 hf1
  go_wp2_with fail
  refine (of_some kind span t k1 k2 k3 k4 k5 (f + span) f _ hk H.out).mono ?_
  rw [D2.out]
  rintro e w2 ⟨rfl, hb2⟩
  obtain ⟨hc2, hf2⟩ := bcell hb2
  have hy : w1.heap.size + 1 < w2.heap.size := by have := hb2.size; simp at this; omega
  have hy0 : w1.heap.size < w2.heap.size := by omega
  have hy1 : w.heap.size < w2.heap.size := by omega
  have hy2 : w.heap.size + 1 < w2.heap.size := by omega
  have T20 : w2.cell? ⟨w.heap.size, 0, none⟩ = some (.int .u8 kind) := by rw [hc2 _ _ (by simp <;> omega), World.cell?_alloc_past _ _ _ (by simp <;> omega), World.cell?_alloc_past _ _ _ (by omega)]; exact T0
  have T21 : w2.cell? ⟨w.heap.size, 1, none⟩ = some (.int .i64 span) := by rw [hc2 _ _ (by simp <;> omega), World.cell?_alloc_past _ _ _ (by simp <;> omega), World.cell?_alloc_past _ _ _ (by omega)]; exact T1
  have T22 : w2.cell? ⟨w.heap.size, 2, none⟩ = some (.string t) := by rw [hc2 _ _ (by simp <;> omega), World.cell?_alloc_past _ _ _ (by simp <;> omega), World.cell?_alloc_past _ _ _ (by omega)]; exact T2
  have K20 : w2.cell? ⟨w.heap.size + 1, 0, none⟩ = some (.int .i64 k1) := by rw [hc2 _ _ (by simp <;> omega), World.cell?_alloc_past _ _ _ (by simp <;> omega), World.cell?_alloc_past _ _ _ (by omega)]; exact K0
  have K21 : w2.cell? ⟨w.heap.size + 1, 1, none⟩ = some (.int .i64 k2) := by rw [hc2 _ _ (by simp <;> omega), World.cell?_alloc_past _ _ _ (by simp <;> omega), World.cell?_alloc_past _ _ _ (by omega)]; exact K1
  have K22 : w2.cell? ⟨w.heap.size + 1, 2, none⟩ = some (.int .i64 k3) := by rw [hc2 _ _ (by simp <;> omega), World.cell?_alloc_past _ _ _ (by simp <;> omega), World.cell?_alloc_past _ _ _ (by omega)]; exact K2
  have K23 : w2.cell? ⟨w.heap.size + 1, 3, none⟩ = some (.int .i64 k4) := by rw [hc2 _ _ (by simp <;> omega), World.cell?_alloc_past _ _ _ (by simp <;> omega), World.cell?_alloc_past _ _ _ (by omega)]; exact K3
  have K24 : w2.cell? ⟨w.heap.size + 1, 4, none⟩ = some (.int .i64 k5) := by rw [hc2 _ _ (by simp <;> omega), World.cell?_alloc_past _ _ _ (by simp <;> omega), World.cell?_alloc_past _ _ _ (by omega)]; exact K4
  have K25 : w2.cell? ⟨w.heap.size + 1, 5, none⟩ = some (.int .i64 k6) := by rw [hc2 _ _ (by simp <;> omega), World.cell?_alloc_past _ _ _ (by simp <;> omega), World.cell?_alloc_past _ _ _ (by omega)]; exact K5
  have I20 : w2.cell? ⟨w1.heap.size, 0, none⟩ = some (.bool false) := by rw [hc2 _ _ (by simp <;> omega), World.cell?_alloc_past _ _ _ (by simp <;> omega), World.cell?_alloc_at _ _ _ _ rfl]; rfl
  have I21 : w2.cell? ⟨w1.heap.size, 1, none⟩ = some (.int .i64 (f + span)) := by rw [hc2 _ _ (by simp <;> omega), World.cell?_alloc_past _ _ _ (by simp <;> omega), World.cell?_alloc_at _ _ _ _ rfl]; rfl
  have G20 : w2.cell? ⟨w1.heap.size + 1, 0, none⟩ = some (.int .i64 k1) := by rw [hc2 _ _ (by simp <;> omega), World.cell?_alloc_at _ _ _ _ (by simp)]; rfl
  have F20 : w2.frozen? ⟨w1.heap.size + 1, 0, none⟩ = false := by rw [hf2 _ _ (by simp <;> omega)]; simp [go_sem]
  have G21 : w2.cell? ⟨w1.heap.size + 1, 1, none⟩ = some (.int .i64 k2) := by rw [hc2 _ _ (by simp <;> omega), World.cell?_alloc_at _ _ _ _ (by simp)]; rfl
  have F21 : w2.frozen? ⟨w1.heap.size + 1, 1, none⟩ = false := by rw [hf2 _ _ (by simp <;> omega)]; simp [go_sem]
  have G22 : w2.cell? ⟨w1.heap.size + 1, 2, none⟩ = some (.int .i64 k3) := by rw [hc2 _ _ (by simp <;> omega), World.cell?_alloc_at _ _ _ _ (by simp)]; rfl
  have F22 : w2.frozen? ⟨w1.heap.size + 1, 2, none⟩ = false := by rw [hf2 _ _ (by simp <;> omega)]; simp [go_sem]
  have G23 : w2.cell? ⟨w1.heap.size + 1, 3, none⟩ = some (.int .i64 k4) := by rw [hc2 _ _ (by simp <;> omega), World.cell?_alloc_at _ _ _ _ (by simp)]; rfl
  have F23 : w2.frozen? ⟨w1.heap.size + 1, 3, none⟩ = false := by rw [hf2 _ _ (by simp <;> omega)]; simp [go_sem]
  have G24 : w2.cell? ⟨w1.heap.size + 1, 4, none⟩ = some (.int .i64 k5) := by rw [hc2 _ _ (by simp <;> omega), World.cell?_alloc_at _ _ _ _ (by simp)]; rfl
  have F24 : w2.frozen? ⟨w1.heap.size + 1, 4, none⟩ = false := by rw [hf2 _ _ (by simp <;> omega)]; simp [go_sem]
  have G25 : w2.cell? ⟨w1.heap.size + 1, 5, none⟩ = some (.int .i64 (f + span)) := by rw [hc2 _ _ (by simp <;> omega), World.cell?_alloc_at _ _ _ _ (by simp)]; rfl
  have F25 : w2.frozen? ⟨w1.heap.size + 1, 5, none⟩ = false := by rw [hf2 _ _ (by simp <;> omega)]; simp [go_sem]
  clear hc2 hf2 T0 T1 T2 K0 K1 K2 K3 K4 K5
  go_wp2_with fail
  · refine (works_any _).mono ?_
    rintro e w3 ⟨rfl, hb3⟩
    go_wp2_with fail
    go_ret
    exact ⟨rfl, (Grow.via (Grow.alloc (Grow.via (Grow.alloc (Grow.alloc (Grow.via (Grow.alloc (Grow.alloc (Grow.refl _) _) _) hb1) _) _) hb2) _) hb3).1⟩
  · refine (begins_any kind k1 k2 k3 k4 k5 k6 _).mono ?_
    rw [H.out]
    rintro e w3 ⟨rfl, hb3⟩
    obtain ⟨hc3, hf3⟩ := bcell hb3
    have hx : w2.heap.size < w3.heap.size := by have := hb3.size; simp at this; omega
    have hx0 : w.heap.size < w3.heap.size := by omega
    have hx1 : w1.heap.size < w3.heap.size := by omega
    have hx2 : w1.heap.size + 1 < w3.heap.size := by omega
    have T30 : w3.cell? ⟨w.heap.size, 0, none⟩ = some (.int .u8 kind) := by rw [hc3 _ _ (by simp <;> omega), World.cell?_alloc_past _ _ _ (by simp <;> omega)]; simp [go_sem, T20]
    have T31 : w3.cell? ⟨w.heap.size, 1, none⟩ = some (.int .i64 span) := by rw [hc3 _ _ (by simp <;> omega), World.cell?_alloc_past _ _ _ (by simp <;> omega)]; simp [go_sem, T21]
    have T32 : w3.cell? ⟨w.heap.size, 2, none⟩ = some (.string t) := by rw [hc3 _ _ (by simp <;> omega), World.cell?_alloc_past _ _ _ (by simp <;> omega)]; simp [go_sem, T22]
    have I30 : w3.cell? ⟨w1.heap.size, 0, none⟩ = some (.bool false) := by rw [hc3 _ _ (by simp <;> omega), World.cell?_alloc_past _ _ _ (by simp <;> omega)]; simp [go_sem, I20]
    have I31 : w3.cell? ⟨w1.heap.size, 1, none⟩ = some (.int .i64 (f + span)) := by rw [hc3 _ _ (by simp <;> omega), World.cell?_alloc_past _ _ _ (by simp <;> omega)]; simp [go_sem, I21]
    have G30 : w3.cell? ⟨w1.heap.size + 1, 0, none⟩ = some (.int .i64 (wrap64 (k1 + (more + 1)))) := by rw [hc3 _ _ (by simp <;> omega), World.cell?_alloc_past _ _ _ (by simp <;> omega)]; simp [go_sem, G20]
    have G31 : w3.cell? ⟨w1.heap.size + 1, 1, none⟩ = some (.int .i64 (wrap64 (k2 + (more + 1)))) := by rw [hc3 _ _ (by simp <;> omega), World.cell?_alloc_past _ _ _ (by simp <;> omega)]; simp [go_sem, G21]
    have G32 : w3.cell? ⟨w1.heap.size + 1, 2, none⟩ = some (.int .i64 (wrap64 (k3 + (more + 1)))) := by rw [hc3 _ _ (by simp <;> omega), World.cell?_alloc_past _ _ _ (by simp <;> omega)]; simp [go_sem, G22]
    have G33 : w3.cell? ⟨w1.heap.size + 1, 3, none⟩ = some (.int .i64 (wrap64 (k4 + (more + 1)))) := by rw [hc3 _ _ (by simp <;> omega), World.cell?_alloc_past _ _ _ (by simp <;> omega)]; simp [go_sem, G23]
    have G34 : w3.cell? ⟨w1.heap.size + 1, 4, none⟩ = some (.int .i64 k5) := by rw [hc3 _ _ (by simp <;> omega), World.cell?_alloc_past _ _ _ (by simp <;> omega)]; simp [go_sem, G24]
    have G35 : w3.cell? ⟨w1.heap.size + 1, 5, none⟩ = some (.int .i64 (f + span)) := by rw [hc3 _ _ (by simp <;> omega), World.cell?_alloc_past _ _ _ (by simp <;> omega)]; simp [go_sem, G25]
    clear hc3 hf3 T20 T21 T22 I20 I21 G20 G21 G22 G23 G24 G25 F20 F21 F22 F23 F24 F25 K20 K21 K22 K23 K24 K25
    go_wp2_with fail
    have hk3 : f + span ≤ 1152921504606846976 ∧ (kind == 3) = false := by assumption
    have H2 : fromOf kind (wrap64 (k1 + (more + 1))) (wrap64 (k2 + (more + 1))) (wrap64 (k3 + (more + 1))) (wrap64 (k4 + (more + 1))) = some (f + (more + 1)) := by
      rw [fromOf_shift kind k1 k2 k3 k4 f (fun k => wrap64 (k + (more + 1))) (by simpa using hk3.2) H.out]
      exact congrArg some (by have := hk3.1; simp only [wrap64]; omega)
    have D3 : dueF (some (f + (more + 1))) span (f + span) = some (f + (more + 1) + span) := due_yes _ _ _ ⟨by omega, q2, q3, by have := hk3.1; omega, by omega⟩
    refine (of_some kind span t _ _ _ _ k5 (f + span) (f + (more + 1)) _ hk H2).mono ?_
    rw [D3]
    rintro e w4 ⟨rfl, hb4⟩
    clear H2 D3
    obtain ⟨hc4, hf4⟩ := bcell hb4
    have hv : w3.heap.size ≤ w4.heap.size := hb4.size
    have hv1 : w1.heap.size < w4.heap.size := by omega
    have I40 : w4.cell? ⟨w1.heap.size, 0, none⟩ = some (.bool false) := by rw [hc4 _ _ hx1]; exact I30
    have I41 : w4.cell? ⟨w1.heap.size, 1, none⟩ = some (.int .i64 (f + span)) := by rw [hc4 _ _ hx1]; exact I31
    clear hc4 hf4
    have he : (f + (more + 1) + span == f + span + (more + 1)) = true := by rw [beq_iff_eq]; omega
    go_wp2_with fail
    refine (works_any _).mono ?_
    rintro e w5 ⟨rfl, hb5⟩
    go_wp2_with fail
    go_ret
    refine ⟨rfl, ?_⟩
    have g2 := Grow.via (Grow.alloc (Grow.alloc (Grow.via (Grow.alloc (Grow.alloc (Grow.refl w) _) _) hb1) _) _) hb2
    have hp : w.heap.size ≤ w1.heap.size + 1 := by omega
    have g3 := Grow.via (Grow.alloc (Grow.set (Grow.set (Grow.set (Grow.set g2 (p := ⟨w1.heap.size + 1, 1, none⟩) hp _) (p := ⟨w1.heap.size + 1, 0, none⟩) hp _) (p := ⟨w1.heap.size + 1, 2, none⟩) hp _) (p := ⟨w1.heap.size + 1, 3, none⟩) hp _) _) hb3
    exact (Grow.via (Grow.alloc (Grow.via g3 hb4) _) hb5).1
  · refine (works_any _).mono ?_
    rintro e w3 ⟨rfl, hb3⟩
    go_wp2_with fail
    go_ret
    exact ⟨rfl, (Grow.via (Grow.alloc (Grow.via (Grow.alloc (Grow.alloc (Grow.via (Grow.alloc (Grow.alloc (Grow.refl _) _) _) hb1) _) _) hb2) _) hb3).1⟩
theorem spent_any (kind span : Int) (t : ByteArray) (k1 k2 k3 k4 k5 k6 more : Int) (w : World) (hs : span ≤ 9223372036854775807) (h1 : k1 ≤ 9223372036854775807) (h2 : k2 ≤ 9223372036854775807) (h3 : k3 ≤ 9223372036854775807) (h4 : k4 ≤ 9223372036854775807) (hm0 : 0 ≤ more) (hm1 : more ≤ 4294967295) :
    Calls Tryz.prog 4 #[.agg #[.int .u8 kind, .int .i64 span, .string t], .agg #[.int .i64 k1, .int .i64 k2, .int .i64 k3, .int .i64 k4, .int .i64 k5, .int .i64 k6], .int .u32 more] w (RetB w true) := by
  by_cases hk : kind = 1
  · subst hk; exact spent_cal span t k1 k2 k3 k4 k5 k6 more w
  · have hk' : (kind == 1) = false := by simpa using hk
    cases hfr : fromOf kind k1 k2 k3 k4 with
    | none => exact spent_none kind span t k1 k2 k3 k4 k5 k6 more w hk' hfr
    | some f =>
      have hf : f ≤ 9223372036854775807 := by
        unfold fromOf at hfr
        split at hfr
        · cases hfr; exact h2
        split at hfr
        · cases hfr; decide
        split at hfr
        · cases hfr; exact h1
        split at hfr
        · cases hfr; exact h3
        split at hfr
        · cases hfr; exact h4
        · cases hfr
      by_cases hd : isDue f span k6
      · exact spent_yes kind span t k1 k2 k3 k4 k5 k6 f more w hk' hfr hd hs hf hm0 hm1
      · exact spent_no kind span t k1 k2 k3 k4 k5 k6 f more w hk' hfr (due_no f span k6 hf hs hd)
end Go.Proofs.YtijjfddnfkegbaaGreat
