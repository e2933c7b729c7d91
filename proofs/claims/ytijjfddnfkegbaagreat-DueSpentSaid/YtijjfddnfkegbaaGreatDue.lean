/- The machine's side of the laws of layer 28: usec.Add, due.Of at every kind but a calendar's. For every input; no condition but the kind. -/
import Derived.Test.YtijjfddnfkegbaaGreatProg
import Derived.WalkKit
import Derived.OwnWalk
import Derived.Below
import Derived.MapKept
import Derived.WideMake
namespace Go.Proofs.YtijjfddnfkegbaaGreat
open Go.RowKit
section
variable {P : Program} {t k el : TypeId} {d : TypeDesc}
theorem alloc_set (W : World) (o o' : Obj) : { W.alloc o with heap := (W.alloc o).heap.setIfInBounds W.heap.size o' } = W.alloc o' := by
  have e : (W.heap.push o).setIfInBounds W.heap.size o' = W.heap.push o' := by
    rw [Array.setIfInBounds_def, dif_pos (by simp)]
    apply Array.ext (by simp)
    intro i h1 h2
    rw [Array.getElem_set, Array.getElem_push, Array.getElem_push]
    by_cases h : i = W.heap.size
    · subst h; simp
    · rw [if_neg (Ne.symm h)]; split <;> first | rfl | (exfalso; simp at h2; omega)
  exact congrArg (fun h => World.mk h W.tape W.drawn W.os W.output) e
theorem heap_alloc_last (W : World) (o : Obj) (r : Nat) (hr : r = W.heap.size) : (W.alloc o).heap[r]? = some o := by
  subst hr; exact (MapKept.heap_alloc W o).1
theorem run_insert_new (ht : P.underlying t = some (.map k el)) (hk : P.underlying k = some d) (W : World) (es : Array MapEntry) (c : Nat) (n v : Value) (r : Nat) (hr : r = W.heap.size) (hn : MapKept.IsKey d n)
    (hnew : Instr.findNow d n es.toList 0 = some none) :
    (Instr.mapUpdate t (.map (some r)) n v).run P (W.alloc (.map es c)) = .ok () (W.alloc (.map (es.push { key := n, val := v, born := c }) (c + 1))) := by
  have hb := heap_alloc_last W (.map es c) r hr
  have hc : (Instr.checkKey false 10000 k n).run P (W.alloc (.map es c)) = .ok () (W.alloc (.map es c)) := MapKept.run_checkKey (k := n) hk hn false 9999
  subst hr
  have hs := alloc_set W (.map es c) (.map (es.push { key := n, val := v, born := c }) (c + 1))
  simp only [Instr.mapUpdate, Sem.run_bind, run_underlying ht, MapKept.run_getObj_map hb, hc, MapKept.run_findKey hk hnew, MapKept.run_setObj_map _ hb, Result.andThen, hs]
/-- what a look-up in a map of known entries answers -/
def lookAns (r : Option (Option (Nat × Value))) (z : Value) : Value :=
  match r with
  | some (some (_, v)) => .tuple #[v, .bool true]
  | _ => .tuple #[z, .bool false]
theorem run_look_ok (ht : P.underlying t = some (.map k el)) (hk : P.underlying k = some d) (W : World) (es : Array MapEntry) (c : Nat) (n z : Value) (r : Nat) (hb : W.heap[r]? = some (.map es c)) (hn : MapKept.IsKey d n) (hz : ∀ w : World, (zeroValue el).run P w = .ok z w)
    (x : Option (Nat × Value)) (hx : Instr.findNow d n es.toList 0 = some x) :
    (Instr.lookup t (.map (some r)) n true).run P W = .ok (lookAns (some x) z) W := by
  have hc : (Instr.checkKey es.isEmpty 10000 k n).run P W = .ok () W := MapKept.run_checkKey (k := n) hk hn _ 9999
  cases x with
  | none => simp [Instr.lookup, run_underlying ht, MapKept.run_getObj_map hb, hc, MapKept.run_findKey hk hx, hz, Result.andThen, lookAns]
  | some y => simp [Instr.lookup, run_underlying ht, MapKept.run_getObj_map hb, hc, MapKept.run_findKey hk hx, Result.andThen, lookAns]
end

theorem findNow_int (q : IntKind) (a b : Int) (v : Value) (bn : Nat) (l : List MapEntry) (i : Nat) : Instr.findNow (.int q) (.int q a) ({ key := .int q b, val := v, born := bn } :: l) i = if a = b then some (some (i, v)) else Instr.findNow (.int q) (.int q a) l (i + 1) := by
  by_cases h : a = b
  · simp [Instr.findNow, Instr.sameNow, h]
  · have : (a == b) = false := by simpa using h
    simp [Instr.findNow, Instr.sameNow, h, this]
theorem findNow_nil (d : TypeDesc) (n : Value) (i : Nat) : Instr.findNow d n [] i = some none := rfl
theorem ins_int {P : Program} {t k el : TypeId} {q : IntKind} (ht : P.underlying t = some (.map k el)) (hk : P.underlying k = some (.int q)) (W : World) (es : Array MapEntry) (c : Nat) (n : Int) (v : Value) (r : Nat) (hr : r = W.heap.size)
    (hnew : Instr.findNow (.int q) (.int q n) es.toList 0 = some none) :
    (Instr.mapUpdate t (.map (some r)) (.int q n) v).run P (W.alloc (.map es c)) = .ok () (W.alloc (.map (es.push { key := .int q n, val := v, born := c }) (c + 1))) :=
  run_insert_new ht hk W es c (.int q n) v r hr (by simp [MapKept.IsKey]) hnew
def neg01 (a : Int) : Int := IntKind.u64.wrap a / 9223372036854775808
theorem neg01_eq (a : Int) (h1 : -9223372036854775808 ≤ a) (h2 : a ≤ 9223372036854775807) : neg01 a = if a < 0 then 1 else 0 := by
  unfold neg01 IntKind.wrap
  simp [IntKind.signed, IntKind.bits]
  split <;> omega
theorem minus_any (a : Int) (w : World) : Calls Tryz.prog 18 #[.int .i64 a] w fun e w' => e = .returned (.int .u64 (neg01 a)) ∧ w = w' := by
  go_enter Tryz.func18, Tryz.ntmps18
  go_wp2
  go_ret
  exact ⟨rfl, rfl⟩
theorem told_any (a : Int) (b : Bool) (w : World) : Calls Tryz.prog 17 #[.int .i64 a, .bool b] w fun e w' => e = .returned (.tuple #[.int .i64 (if b then a else 0), .bool b]) ∧ w = w' := by
  cases b
  · go_enter Tryz.func17, Tryz.ntmps17
    go_wp2
    go_ret2
    exact ⟨rfl, rfl⟩
  · go_enter Tryz.func17, Tryz.ntmps17
    go_wp2
    go_ret2
    exact ⟨rfl, rfl⟩
def addOk (a b : Int) : Bool := neg01 a != neg01 b || neg01 (wrap64 (a + b)) == neg01 a
def addV (a b : Int) : Int := if addOk a b then wrap64 (a + b) else 0
def Ret (w : World) (v : Value) (e : Ending) (w' : World) : Prop := e = .returned v ∧ w = w'
theorem add_any (a b : Int) (w : World) : Calls Tryz.prog 10 #[.int .i64 a, .int .i64 b] w (Ret w (.tuple #[.int .i64 (addV a b), .bool (addOk a b)])) := by
  go_enter Tryz.func10, Tryz.ntmps10
  go_wp2_with (first | (go_at_call 18; refine (minus_any _ _).mono ?_; rintro e w' ⟨rfl, rfl⟩) | (go_at_call 17; refine (told_any _ _ _).mono ?_; rintro e w' ⟨rfl, rfl⟩))
  all_goals
    go_ret2
    refine ⟨?_, rfl⟩
    unfold addV addOk
    simp [*]

theorem look_int {P : Program} {t k el : TypeId} {q : IntKind} (ht : P.underlying t = some (.map k el)) (hk : P.underlying k = some (.int q)) (z : Value) (hz : ∀ w : World, (zeroValue el).run P w = .ok z w) (es : Array MapEntry) (n : Int) (x : Option (Nat × Value)) (hx : Instr.findNow (.int q) (.int q n) es.toList 0 = some x) (W : World) (c : Nat) (r : Nat) (hr : r = W.heap.size) :
    (Instr.lookup t (.map (some r)) (.int q n) true).run P (W.alloc (.map es c)) = .ok (lookAns (some x) z) (W.alloc (.map es c)) :=
  run_look_ok ht hk _ es c (.int q n) z r (heap_alloc_last W _ r hr) (by simp [MapKept.IsKey]) hz x hx
def fromOf (kind k1 k2 k3 k4 : Int) : Option Int := if kind = 2 then some k2 else if kind = 3 then some 0 else if kind = 4 then some k1 else if kind = 5 then some k3 else if kind = 6 then some k4 else none
def dueF (fr : Option Int) (span spent : Int) : Option Int :=
  match fr with
  | none => none
  | some f => if addOk f span = true ∧ 0 ≤ f ∧ 0 ≤ span ∧ span ≠ 9223372036854775807 ∧ spent < addV f span then some (addV f span) else none
def RetDue (w : World) (r : Option Int) (e : Ending) (w' : World) : Prop := e = .returned (.tuple #[.agg #[.bool false, .int .i64 (r.getD 0)], .bool r.isSome]) ∧ Below w.heap.size w w'
theorem dueF_no (f span spent : Int) (h : ¬ (addOk f span = true ∧ 0 ≤ f ∧ 0 ≤ span ∧ span ≠ 9223372036854775807 ∧ spent < addV f span)) : dueF (some f) span spent = none := if_neg h
theorem dueF_yes (f span spent : Int) (h : addOk f span = true ∧ 0 ≤ f ∧ 0 ≤ span ∧ span ≠ 9223372036854775807 ∧ spent < addV f span) : dueF (some f) span spent = some (addV f span) := if_pos h
theorem due_below (w : World) (a b c d e : Obj) : Below w.heap.size w (((((w.alloc a).alloc b).alloc c).alloc d).alloc e) := by
  have h : ∀ (W : World) (o : Obj), Below w.heap.size w W → w.heap.size ≤ W.heap.size → Below w.heap.size w (W.alloc o) ∧ w.heap.size ≤ (W.alloc o).heap.size := fun W o h1 h2 => ⟨h1.alloc h2 o, by simp; omega⟩
  obtain ⟨h1, g1⟩ := h w a (Below.refl _ _) (Nat.le_refl _)
  obtain ⟨h2, g2⟩ := h _ b h1 g1
  obtain ⟨h3, g3⟩ := h _ c h2 g2
  obtain ⟨h4, g4⟩ := h _ d h3 g3
  exact (h _ e h4 g4).1
theorem ret_no {w w' : World} (h : Below w.heap.size w w') : RetDue w none (.returned (.tuple #[.agg #[.bool false, .int .i64 0], .bool false])) w' := ⟨rfl, h⟩
theorem ret_yes {w w' : World} (n : Int) (h : Below w.heap.size w w') : RetDue w (some n) (.returned (.tuple #[.agg #[.bool false, .int .i64 n], .bool true])) w' := ⟨rfl, h⟩
theorem zero2 (w : World) : (zeroValue 2).run Tryz.prog w = .ok (.int .i64 0) w := by kernel_rfl
set_option maxRecDepth 100000 in
set_option maxHeartbeats 1000000 in
theorem of_some (kind span : Int) (t : ByteArray) (k1 k2 k3 k4 k5 k6 f : Int) (w : World) (hk : (kind == 1) = false) (hfr : fromOf kind k1 k2 k3 k4 = some f) :
    Calls Tryz.prog 6 #[.agg #[.int .u8 kind, .int .i64 span, .string t], .agg #[.int .u8 0, .slice none 0 0, .slice none 0 0, .slice none 0 0, .bool false, .slice none 0 0, .slice none 0 0, .slice none 0 0, .bool false], .pointer none, .agg #[.int .i64 k1, .int .i64 k2, .int .i64 k3, .int .i64 k4, .int .i64 k5, .int .i64 k6]] w (RetDue w (dueF (some f) span k6)) := by
  have hl : ∀ (W : World) (r : Nat), r = W.heap.size → ((Instr.lookup 42 (.map (some r)) (.int .u8 kind) true).run Tryz.prog (W.alloc (.map #[{ key := .int .u8 2, val := .int .i64 k2, born := 0 }, { key := .int .u8 3, val := .int .i64 0, born := 1 }, { key := .int .u8 4, val := .int .i64 k1, born := 2 }, { key := .int .u8 5, val := .int .i64 k3, born := 3 }, { key := .int .u8 6, val := .int .i64 k4, born := 4 }] 5)) = .ok (.tuple #[.int .i64 f, .bool true]) (W.alloc (.map #[{ key := .int .u8 2, val := .int .i64 k2, born := 0 }, { key := .int .u8 3, val := .int .i64 0, born := 1 }, { key := .int .u8 4, val := .int .i64 k1, born := 2 }, { key := .int .u8 5, val := .int .i64 k3, born := 3 }, { key := .int .u8 6, val := .int .i64 k4, born := 4 }] 5))) := by
    intro W r hr
    unfold fromOf at hfr
    by_cases e2 : kind = 2
    · rw [if_pos e2] at hfr; cases hfr; exact look_int Tryz.underlying42 Tryz.underlying5 _ zero2 _ kind (some (0, .int .i64 k2)) (by simp [findNow_int, e2]) W 5 r hr
    rw [if_neg e2] at hfr
    by_cases e3 : kind = 3
    · rw [if_pos e3] at hfr; cases hfr; exact look_int Tryz.underlying42 Tryz.underlying5 _ zero2 _ kind (some (1, .int .i64 0)) (by simp [findNow_int, e3]) W 5 r hr
    rw [if_neg e3] at hfr
    by_cases e4 : kind = 4
    · rw [if_pos e4] at hfr; cases hfr; exact look_int Tryz.underlying42 Tryz.underlying5 _ zero2 _ kind (some (2, .int .i64 k1)) (by simp [findNow_int, e4]) W 5 r hr
    rw [if_neg e4] at hfr
    by_cases e5 : kind = 5
    · rw [if_pos e5] at hfr; cases hfr; exact look_int Tryz.underlying42 Tryz.underlying5 _ zero2 _ kind (some (3, .int .i64 k3)) (by simp [findNow_int, e5]) W 5 r hr
    rw [if_neg e5] at hfr
    by_cases e6 : kind = 6
    · rw [if_pos e6] at hfr; cases hfr; exact look_int Tryz.underlying42 Tryz.underlying5 _ zero2 _ kind (some (4, .int .i64 k4)) (by simp [findNow_int, e6]) W 5 r hr
    · rw [if_neg e6] at hfr; cases hfr
  clear hfr
  have hmm := @run_makeMap Tryz.prog
  have hi := fun W es c n v r => ins_int (P := Tryz.prog) (q := .u8) Tryz.underlying42 Tryz.underlying5 W es c n v r
  have hf := findNow_int
  have hn := findNow_nil
  go_enter Tryz.func6, Tryz.ntmps6
  go_wp2_with (go_at_call 10; refine (add_any _ _ _).mono ?_; rintro e w' ⟨rfl, rfl⟩)
  all_goals
    clear hl hi hf hn hmm
    first
    | rw [dueF_no f 9223372036854775807 k6 (fun h => h.2.2.2.1 rfl)]
    | rw [dueF_no f span k6 (by as_aux_lemma => rintro ⟨h1, h2, h3, h4, h5⟩; first | contradiction | omega | (simp only [beq_iff_eq] at *; omega))]
    | rw [dueF_yes f span k6 (by as_aux_lemma => refine ⟨by assumption, by omega, by omega, by omega, by omega⟩)]
  all_goals
    first
    | (refine bodyPost_ret (v := .tuple #[.agg #[.bool false, .int .i64 0], .bool false]) ?_ rfl (ret_no (due_below _ _ _ _ _ _)); simp [results, Tryz.results6, go_sem]; done)
    | (refine bodyPost_ret (v := .tuple #[.agg #[.bool false, .int .i64 (addV f span)], .bool true]) ?_ rfl (ret_yes _ (due_below _ _ _ _ _ _)); simp [results, Tryz.results6, go_sem]; done)
set_option maxRecDepth 100000 in
set_option maxHeartbeats 1000000 in
theorem of_none (kind span : Int) (t : ByteArray) (k1 k2 k3 k4 k5 k6 : Int) (w : World) (hk : (kind == 1) = false) (hfr : fromOf kind k1 k2 k3 k4 = none) :
    Calls Tryz.prog 6 #[.agg #[.int .u8 kind, .int .i64 span, .string t], .agg #[.int .u8 0, .slice none 0 0, .slice none 0 0, .slice none 0 0, .bool false, .slice none 0 0, .slice none 0 0, .slice none 0 0, .bool false], .pointer none, .agg #[.int .i64 k1, .int .i64 k2, .int .i64 k3, .int .i64 k4, .int .i64 k5, .int .i64 k6]] w (RetDue w none) := by
  have hl : ∀ (W : World) (r : Nat), r = W.heap.size → ((Instr.lookup 42 (.map (some r)) (.int .u8 kind) true).run Tryz.prog (W.alloc (.map #[{ key := .int .u8 2, val := .int .i64 k2, born := 0 }, { key := .int .u8 3, val := .int .i64 0, born := 1 }, { key := .int .u8 4, val := .int .i64 k1, born := 2 }, { key := .int .u8 5, val := .int .i64 k3, born := 3 }, { key := .int .u8 6, val := .int .i64 k4, born := 4 }] 5)) = .ok (.tuple #[.int .i64 0, .bool false]) (W.alloc (.map #[{ key := .int .u8 2, val := .int .i64 k2, born := 0 }, { key := .int .u8 3, val := .int .i64 0, born := 1 }, { key := .int .u8 4, val := .int .i64 k1, born := 2 }, { key := .int .u8 5, val := .int .i64 k3, born := 3 }, { key := .int .u8 6, val := .int .i64 k4, born := 4 }] 5))) := by
    intro W r hr
    unfold fromOf at hfr
    by_cases e2 : kind = 2
    · rw [if_pos e2] at hfr; cases hfr
    rw [if_neg e2] at hfr
    by_cases e3 : kind = 3
    · rw [if_pos e3] at hfr; cases hfr
    rw [if_neg e3] at hfr
    by_cases e4 : kind = 4
    · rw [if_pos e4] at hfr; cases hfr
    rw [if_neg e4] at hfr
    by_cases e5 : kind = 5
    · rw [if_pos e5] at hfr; cases hfr
    rw [if_neg e5] at hfr
    by_cases e6 : kind = 6
    · rw [if_pos e6] at hfr; cases hfr
    exact look_int Tryz.underlying42 Tryz.underlying5 _ zero2 _ kind none (by simp [findNow_int, findNow_nil, e2, e3, e4, e5, e6]) W 5 r hr
  clear hfr
  have hmm := @run_makeMap Tryz.prog
  have hi := fun W es c n v r => ins_int (P := Tryz.prog) (q := .u8) Tryz.underlying42 Tryz.underlying5 W es c n v r
  have hf := findNow_int
  have hn := findNow_nil
  go_enter Tryz.func6, Tryz.ntmps6
  go_wp2_with (go_at_call 10; refine (add_any _ _ _).mono ?_; rintro e w' ⟨rfl, rfl⟩)
  all_goals
    refine bodyPost_ret (v := .tuple #[.agg #[.bool false, .int .i64 0], .bool false]) ?_ rfl (ret_no (due_below _ _ _ _ _ _)); simp [results, Tryz.results6, go_sem]; done
end Go.Proofs.YtijjfddnfkegbaaGreat
