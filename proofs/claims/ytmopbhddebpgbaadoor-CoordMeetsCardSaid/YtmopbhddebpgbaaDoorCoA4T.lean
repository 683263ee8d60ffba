/- Rectangles. -/
import Derived.Test.YtmopbhddebpgbaaDoorCoA1T
import Derived.Test.YtmopbhddebpgbaaDoorQCoordTx13
import Derived.Test.YtmopbhddebpgbaaDoorQCoordTx15
import Derived.Test.YtmopbhddebpgbaaDoorQCoordTx14
import Derived.Test.YtmopbhddebpgbaaDoorQCoordTx16
namespace Go.Proofs.YtmopbhddebpgbaaDoor.QCoordT
set_option linter.unusedSimpArgs false
open Go.RowKit Go.Proofs.YtmopbhddebpgbaaDoorW.PrintWords Go.Proofs.YtmopbhddebpgbaaDoorW.PrintLast Go.Proofs.YtmopbhddebpgbaaDoorW.PrintMore
theorem rin_eq4 (a b : Int) : cadastreref06_In.f a b = some (decide (In a b)) := rfl
/-! ### Rectangles -/
def Ok (r c r2 c2 : Int) : Prop := In r c ∧ In r2 c2 ∧ r ≤ r2 ∧ c ≤ c2
instance decOk (r c r2 c2 : Int) : Decidable (Ok r c r2 c2) := by unfold Ok; infer_instance
theorem area_val {r c r2 c2 : Int} (h : Ok r c r2 c2) : wrap64 ((wrap64 ((wrap64 (r2 - r)) + 1)) * (wrap64 ((wrap64 (c2 - c)) + 1))) = (r2 - r + 1) * (c2 - c + 1) ∧ 1 ≤ (r2 - r + 1) * (c2 - c + 1) ∧ (r2 - r + 1) * (c2 - c + 1) ≤ 52000 := by
  obtain ⟨⟨a1, a2, a3, a4⟩, ⟨b1, b2, b3, b4⟩, c1, c2'⟩ := h
  have w1 : wrap64 ((wrap64 (r2 - r)) + 1) = r2 - r + 1 := by unfold wrap64; omega
  have w2 : wrap64 ((wrap64 (c2 - c)) + 1) = c2 - c + 1 := by unfold wrap64; omega
  rw [w1, w2]
  have h1 : 1 * 1 ≤ (r2 - r + 1) * (c2 - c + 1) := Int.mul_le_mul (by omega) (by omega) (by omega) (by omega)
  have h2 : (r2 - r + 1) * (c2 - c + 1) ≤ 1000 * 52 := Int.mul_le_mul (by omega) (by omega) (by omega) (by omega)
  refine ⟨?_, by omega, by omega⟩
  generalize (r2 - r + 1) * (c2 - c + 1) = x at *
  unfold wrap64
  omega
theorem area_eq (r c r2 c2 : Int) : coord_area.f r c r2 c2 = some (if Ok r c r2 c2 then (r2 - r + 1) * (c2 - c + 1) else 0) := by
  unfold coord_area.f
  rw [in_eq, in_eq]
  simp only [Option.bind_some, decide_eq_true_eq]
  by_cases h1 : In r c
  · rw [if_pos h1]
    by_cases h2 : In r2 c2
    · rw [if_pos h2]
      by_cases h3 : r > r2
      · rw [if_pos h3, if_neg (by unfold Ok; omega)]
      · rw [if_neg h3]
        by_cases h4 : c > c2
        · rw [if_pos h4, if_neg (by unfold Ok; omega)]
        · have ho : Ok r c r2 c2 := ⟨h1, h2, by omega, by omega⟩
          rw [if_neg h4, if_pos ho, (area_val ho).1]
    · rw [if_neg h2, if_neg (fun h => h2 h.2.1)]
  · rw [if_neg h1, if_neg (fun h => h1 h.1)]
theorem Area_eq (r c r2 c2 : Int) : coord_Area.f r c r2 c2 = some (if Ok r c r2 c2 then (r2 - r + 1) * (c2 - c + 1) else 0) := by unfold coord_Area.f; rw [area_eq]; rfl
theorem rcan_eq (r c r2 c2 : Int) : cadastreref06_Can.f r c r2 c2 = some (decide (Ok r c r2 c2)) := by
  unfold cadastreref06_Can.f
  rw [rin_eq4, rin_eq4]
  simp only [Option.bind_some, decide_eq_true_eq]
  by_cases h1 : In r c
  · rw [if_pos h1]
    by_cases h2 : In r2 c2
    · rw [if_pos h2]
      by_cases h3 : r ≤ r2
      · rw [if_pos h3]
        exact congrArg some (decide_eq_decide.mpr ⟨fun h => ⟨h1, h2, h3, h⟩, fun h => h.2.2.2⟩)
      · rw [if_neg h3]
        exact congrArg some (decide_eq_false fun h => h3 h.2.2.1).symm
    · rw [if_neg h2]
      exact congrArg some (decide_eq_false fun h => h2 h.2.1).symm
  · rw [if_neg h1]
    exact congrArg some (decide_eq_false fun h => h1 h.1).symm
theorem rArea_eq (r c r2 c2 : Int) : cadastreref06_Area.f r c r2 c2 = some (if Ok r c r2 c2 then (r2 - r + 1) * (c2 - c + 1) else 0) := by
  unfold cadastreref06_Area.f
  rw [rcan_eq]
  simp only [Option.bind_some, decide_eq_true_eq]
  by_cases h : Ok r c r2 c2
  · rw [if_pos h, if_pos h, (area_val h).1]
  · rw [if_neg h, if_neg h]
def HasP (r c r2 c2 row col : Int) : Prop := Ok r c r2 c2 ∧ r ≤ row ∧ row ≤ r2 ∧ c ≤ col ∧ col ≤ c2
instance decHasP (r c r2 c2 row col : Int) : Decidable (HasP r c r2 c2 row col) := by unfold HasP; infer_instance
theorem has_tail {r c r2 c2 row col : Int} (h : Ok r c r2 c2) : (if row ≥ r then (if row ≤ r2 then (if col ≥ c then (some (decide (col ≤ c2))) else (some false)) else (some false)) else (some false)) = some (decide (HasP r c r2 c2 row col)) := by
  unfold HasP
  by_cases h1 : row ≥ r
  · rw [if_pos h1]
    by_cases h2 : row ≤ r2
    · rw [if_pos h2]
      by_cases h3 : col ≥ c
      · rw [if_pos h3]
        exact congrArg some (decide_eq_decide.mpr ⟨fun h4 => ⟨h, h1, h2, h3, h4⟩, fun h4 => h4.2.2.2.2⟩)
      · rw [if_neg h3]; exact congrArg some (decide_eq_false fun h4 => h3 h4.2.2.2.1).symm
    · rw [if_neg h2]; exact congrArg some (decide_eq_false fun h4 => h2 h4.2.2.1).symm
  · rw [if_neg h1]; exact congrArg some (decide_eq_false fun h4 => h1 h4.2.1).symm
theorem has_eq (r c r2 c2 row col : Int) : coord_Has.f r c r2 c2 row col = some (decide (HasP r c r2 c2 row col)) := by
  unfold coord_Has.f
  rw [area_eq]
  simp only [Option.bind_some]
  by_cases h : Ok r c r2 c2
  · rw [if_pos h, if_pos (by have := (area_val h).2.1; omega)]
    exact has_tail h
  · rw [if_neg h, if_neg (by omega)]
    exact congrArg some (decide_eq_false fun h4 => h h4.1).symm
theorem rhas_eq (r c r2 c2 row col : Int) : cadastreref06_Has.f r c r2 c2 row col = some (decide (HasP r c r2 c2 row col)) := by
  unfold cadastreref06_Has.f
  rw [rcan_eq]
  simp only [Option.bind_some]
  by_cases h : Ok r c r2 c2
  · rw [if_pos (decide_eq_true h)]
    exact has_tail h
  · rw [if_neg (by simp [h])]
    exact congrArg some (decide_eq_false fun h4 => h h4.1).symm
end Go.Proofs.YtmopbhddebpgbaaDoor.QCoordT
