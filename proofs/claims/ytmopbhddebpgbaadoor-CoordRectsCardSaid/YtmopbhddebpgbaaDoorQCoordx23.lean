/- Functions of the program and of the references as plain Lean functions, and that each call answers what they say; conditions: each contract names its own. Written by a program of this session. -/
import Derived.Test.YtmopbhddebpgbaaDoorQCoordx0
namespace Go.Proofs.YtmopbhddebpgbaaDoor.QCoord
open Go.RowKit Go.Proofs.YtmopbhddebpgbaaDoorW.PrintWords Go.Proofs.YtmopbhddebpgbaaDoorW.PrintLast Go.Proofs.YtmopbhddebpgbaaDoorW.PrintMore
attribute [local go_sem] max2_int min2_int max_two min_two max_three min_three max_four min_four   -- for this text's walks alone
set_option linter.unusedVariables false
set_option linter.unusedSimpArgs false

/-! ### coord_Rect: function 20 -/
def coord_Rect.In (a b : Int) : Prop := 1 ≤ a ∧ a ≤ 1000 ∧ 1 ≤ b ∧ b ≤ 52
instance coord_Rect.decIn (a b : Int) : Decidable (coord_Rect.In a b) := by unfold coord_Rect.In; infer_instance
def coord_Rect.f (a0_0 : Int) (a0_1 : Int) (a0_2 : Bool) (a0_3 : Bool) (a1_0 : Int) (a1_1 : Int) (a1_2 : Bool) (a1_3 : Bool) : Option (Int × Int × Int × Int) :=
  some (if coord_Rect.In a0_0 a0_1 ∧ coord_Rect.In a1_0 a1_1 then (min a0_0 a1_0, min a0_1 a1_1, max a0_0 a1_0, max a0_1 a1_1) else (0, 0, 0, 0))
theorem coord_Rect.inP (a b : Int) (w : World) : Calls Tryd.prog 33 #[.int .i64 a, .int .i64 b] w fun e w' => e = .returned (.bool (decide (coord_Rect.In a b))) ∧ w' = w := by
  unfold coord_Rect.In
  by_cases h1 : 1 ≤ a <;> by_cases h2 : a ≤ 1000 <;> by_cases h3 : 1 ≤ b <;> by_cases h4 : b ≤ 52
  all_goals
    go_enter Tryd.func33, Tryd.ntmps33
    go_wp2
    all_goals first | (exfalso; omega) | (go_ret; exact ⟨by simp [h1, h2, h3, h4], rfl⟩)
theorem coord_Rect.inP_yes (a b : Int) (h : coord_Rect.In a b) (w : World) : Calls Tryd.prog 33 #[.int .i64 a, .int .i64 b] w fun e w' => e = .returned (.bool true) ∧ w' = w := (coord_Rect.inP a b w).mono fun e w' hh => by rw [decide_eq_true h] at hh; exact hh
theorem coord_Rect.inP_no (a b : Int) (h : ¬ coord_Rect.In a b) (w : World) : Calls Tryd.prog 33 #[.int .i64 a, .int .i64 b] w fun e w' => e = .returned (.bool false) ∧ w' = w := (coord_Rect.inP a b w).mono fun e w' hh => by rw [decide_eq_false h] at hh; exact hh
set_option maxHeartbeats 1000000 in
theorem coord_Rect.calls (a0_0 : Int) (a0_1 : Int) (a0_2 : Bool) (a0_3 : Bool) (a1_0 : Int) (a1_1 : Int) (a1_2 : Bool) (a1_3 : Bool) (r1 : Int) (r2 : Int) (r3 : Int) (r4 : Int) (w : World) (h : coord_Rect.f a0_0 a0_1 a0_2 a0_3 a1_0 a1_1 a1_2 a1_3 = some (r1, r2, r3, r4)) :
    Calls Tryd.prog 20 #[.agg #[.int .i64 a0_0, .int .i64 a0_1, .bool a0_2, .bool a0_3], .agg #[.int .i64 a1_0, .int .i64 a1_1, .bool a1_2, .bool a1_3]] w fun e w' => e = .returned (.agg #[.int .i64 r1, .int .i64 r2, .int .i64 r3, .int .i64 r4]) ∧ Below w.heap.size w w' := by
  have h2 := Option.some.inj h
  clear h
  by_cases hin : coord_Rect.In a0_0 a0_1 ∧ coord_Rect.In a1_0 a1_1
  · rw [if_pos hin] at h2
    obtain ⟨⟨p1, p2, p3, p4⟩, q1, q2, q3, q4⟩ := hin
    simp only [Prod.mk.injEq] at h2
    obtain ⟨rfl, rfl, rfl, rfl⟩ := h2
    go_enter Tryd.func20, Tryd.ntmps20
    go_wp2
    all_goals exact bodyPost_ret (v := .agg #[.int .i64 (min a0_0 a1_0), .int .i64 (min a0_1 a1_1), .int .i64 (max a0_0 a1_0), .int .i64 (max a0_1 a1_1)]) (by first | (simp [results, Tryd.results20, go_sem]; done) | (simp [results, Tryd.results20, go_sem]; omega)) rfl ⟨rfl, (((Below.refl _ _).alloc (Nat.le_refl _) _).alloc (by simp) _).alloc (by simp; omega) _⟩
  · rw [if_neg hin] at h2
    simp only [Prod.mk.injEq] at h2
    obtain ⟨rfl, rfl, rfl, rfl⟩ := h2
    by_cases h1 : coord_Rect.In a0_0 a0_1
    · have h3 : ¬ coord_Rect.In a1_0 a1_1 := fun h => hin ⟨h1, h⟩
      have d1 : decide (coord_Rect.In a0_0 a0_1) = true := decide_eq_true h1
      have d2 : decide (coord_Rect.In a1_0 a1_1) = false := decide_eq_false h3
      clear hin h1 h3
      go_enter Tryd.func20, Tryd.ntmps20
      go_wp2_with (go_at_call 33; refine (coord_Rect.inP _ _ _).mono ?_; rintro e w' ⟨rfl, rfl⟩)
      exact bodyPost_ret (v := .agg #[.int .i64 0, .int .i64 0, .int .i64 0, .int .i64 0]) (by simp [results, Tryd.results20, go_sem]) rfl ⟨rfl, (((Below.refl _ _).alloc (Nat.le_refl _) _).alloc (by simp) _).alloc (by simp; omega) _⟩
    · have d1 : decide (coord_Rect.In a0_0 a0_1) = false := decide_eq_false h1
      clear hin h1
      go_enter Tryd.func20, Tryd.ntmps20
      go_wp2_with (go_at_call 33; refine (coord_Rect.inP _ _ _).mono ?_; rintro e w' ⟨rfl, rfl⟩)
      exact bodyPost_ret (v := .agg #[.int .i64 0, .int .i64 0, .int .i64 0, .int .i64 0]) (by simp [results, Tryd.results20, go_sem]) rfl ⟨rfl, (((Below.refl _ _).alloc (Nat.le_refl _) _).alloc (by simp) _).alloc (by simp; omega) _⟩

/-! ### cadastreref06_Least: function 37 -/
def cadastreref06_Least.f (a0 : Int) (a1 : Int) : Option (Int) := if a0 < a1 then (some a0) else (some a1)
set_option maxHeartbeats 8000000 in
set_option maxRecDepth 100000 in
theorem cadastreref06_Least.calls (a0 : Int) (a1 : Int) (r : Int) (w : World) (h : cadastreref06_Least.f a0 a1 = some r) :
    Calls Tryd.prog 37 #[.int .i64 a0, .int .i64 a1] w fun e w' => e = .returned (.int .i64 r) ∧ Drawn0 w w' := by
  have H : (if a0 < a1 then (some a0) else (some a1)) = some r := h
  clear h
  by_cases c3 : a0 < a1
  · rw [if_pos c3] at H
    have c3b0 : decide (a0 < a1) = true := decide_eq_true c3
    clear c3
    obtain rfl := Option.some.inj H
    go_enter Tryd.func37, Tryd.ntmps37
    go_wp2
    go_ret
    exact ⟨by first | rfl | (simp; done) | (simp [*]; done), by repeat (first | exact Drawn0.refl _ | apply Drawn0.step)⟩
  · rw [if_neg c3] at H
    have c3b0 : decide (a0 < a1) = false := decide_eq_false c3
    clear c3
    obtain rfl := Option.some.inj H
    go_enter Tryd.func37, Tryd.ntmps37
    go_wp2
    go_ret
    exact ⟨by first | rfl | (simp; done) | (simp [*]; done), by repeat (first | exact Drawn0.refl _ | apply Drawn0.step)⟩

/-! ### cadastreref06_Great: function 38 -/
def cadastreref06_Great.f (a0 : Int) (a1 : Int) : Option (Int) := if a0 > a1 then (some a0) else (some a1)
set_option maxHeartbeats 8000000 in
set_option maxRecDepth 100000 in
theorem cadastreref06_Great.calls (a0 : Int) (a1 : Int) (r : Int) (w : World) (h : cadastreref06_Great.f a0 a1 = some r) :
    Calls Tryd.prog 38 #[.int .i64 a0, .int .i64 a1] w fun e w' => e = .returned (.int .i64 r) ∧ Drawn0 w w' := by
  have H : (if a0 > a1 then (some a0) else (some a1)) = some r := h
  clear h
  by_cases c3 : a0 > a1
  · rw [if_pos c3] at H
    have c3b0 : decide (a1 < a0) = true := decide_eq_true c3
    clear c3
    obtain rfl := Option.some.inj H
    go_enter Tryd.func38, Tryd.ntmps38
    go_wp2
    go_ret
    exact ⟨by first | rfl | (simp; done) | (simp [*]; done), by repeat (first | exact Drawn0.refl _ | apply Drawn0.step)⟩
  · rw [if_neg c3] at H
    have c3b0 : decide (a1 < a0) = false := decide_eq_false c3
    clear c3
    obtain rfl := Option.some.inj H
    go_enter Tryd.func38, Tryd.ntmps38
    go_wp2
    go_ret
    exact ⟨by first | rfl | (simp; done) | (simp [*]; done), by repeat (first | exact Drawn0.refl _ | apply Drawn0.step)⟩

end Go.Proofs.YtmopbhddebpgbaaDoor.QCoord
