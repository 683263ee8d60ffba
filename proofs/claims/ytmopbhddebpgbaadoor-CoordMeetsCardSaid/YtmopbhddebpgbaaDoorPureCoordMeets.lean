/- CoordMeets: the pure statement, proved: plain Lean over what the printed functions answer; no condition. -/
import Derived.Test.YtmopbhddebpgbaaDoorCoA4T
import Derived.Test.YtmopbhddebpgbaaDoorQCoordTx20
import Derived.Test.YtmopbhddebpgbaaDoorQCoordTx17
import Derived.Test.YtmopbhddebpgbaaDoorQCoordTx19
set_option linter.unusedSimpArgs false
set_option linter.unusedVariables false
namespace Go.Proofs.YtmopbhddebpgbaaDoor.Pure
open Go.RowKit Go.Proofs.YtmopbhddebpgbaaDoorW.PrintWords Go.Proofs.YtmopbhddebpgbaaDoorW.PrintLast Go.Proofs.YtmopbhddebpgbaaDoorW.PrintMore Go.Proofs.YtmopbhddebpgbaaDoor.QCoordT
theorem least (x y : Int) : cadastreref06_Least.f x y = some (min x y) := by unfold cadastreref06_Least.f; split <;> congr 1 <;> omega
theorem great (x y : Int) : cadastreref06_Great.f x y = some (max x y) := by unfold cadastreref06_Great.f; split <;> congr 1 <;> omega
def Both (r c r2 c2 b1 b2 b3 b4 : Int) : Prop := Ok r c r2 c2 ∧ Ok b1 b2 b3 b4 ∧ Ok (max r b1) (max c b2) (min r2 b3) (min c2 b4)
instance decBoth (r c r2 c2 b1 b2 b3 b4 : Int) : Decidable (Both r c r2 c2 b1 b2 b3 b4) := by unfold Both; infer_instance
theorem meet_eq (k : Nat) (r c r2 c2 b1 b2 b3 b4 : Int) : coord_Meet.f (k + 1) r c r2 c2 b1 b2 b3 b4 = some (if Both r c r2 c2 b1 b2 b3 b4 then (max r b1, max c b2, min r2 b3, min c2 b4, true) else (0, 0, 0, 0, false)) := by
  unfold coord_Meet.f
  rw [area_eq, area_eq]
  simp only [Option.bind_some]
  by_cases ha : Ok r c r2 c2
  · have h1 := (area_val ha).2
    rw [if_pos ha, if_neg (by omega)]
    simp only [coord_Meet.j0]
    by_cases hb : Ok b1 b2 b3 b4
    · have h2 := (area_val hb).2
      rw [if_pos hb, if_neg (by simp only [beq_iff_eq]; omega), area_eq]
      simp only [Option.bind_some]
      have e1 : mx r b1 = max r b1 := by unfold mx; omega
      have e2 : mx c b2 = max c b2 := by unfold mx; omega
      have e3 : mn r2 b3 = min r2 b3 := by unfold mn; omega
      have e4 : mn c2 b4 = min c2 b4 := by unfold mn; omega
      rw [e1, e2, e3, e4]
      by_cases ho : Ok (max r b1) (max c b2) (min r2 b3) (min c2 b4)
      · have h3 := (area_val ho).2
        rw [if_pos ho, if_neg (by omega), if_pos (show Both r c r2 c2 b1 b2 b3 b4 from ⟨ha, hb, ho⟩)]
      · rw [if_neg ho, if_pos rfl, if_neg fun h : Both r c r2 c2 b1 b2 b3 b4 => ho h.2.2]
    · rw [if_neg hb, if_pos (by simp), if_neg fun h : Both r c r2 c2 b1 b2 b3 b4 => hb h.2.1]
  · rw [if_neg ha, if_pos rfl, if_neg fun h : Both r c r2 c2 b1 b2 b3 b4 => ha h.1]
    simp only [coord_Meet.j0, if_true]
theorem rmeet_eq (k : Nat) (r c r2 c2 b1 b2 b3 b4 : Int) : cadastreref06_Meet.f (k + 1) r c r2 c2 b1 b2 b3 b4 = some (if Both r c r2 c2 b1 b2 b3 b4 then (max r b1, max c b2, min r2 b3, min c2 b4, true) else (0, 0, 0, 0, false)) := by
  unfold cadastreref06_Meet.f
  rw [rcan_eq, rcan_eq]
  simp only [Option.bind_some, cadastreref06_Meet.j0, least, great, decide_eq_true_eq, if_true]
  by_cases ha : Ok r c r2 c2
  · by_cases hb : Ok b1 b2 b3 b4
    · rw [if_pos ha, if_pos hb]
      have hkey : Both r c r2 c2 b1 b2 b3 b4 ↔ ¬ r > b3 ∧ ¬ b1 > r2 ∧ ¬ c > b4 ∧ ¬ b2 > c2 := by
        unfold Both Ok In at *
        omega
      by_cases h1 : r > b3
      · rw [if_pos h1, if_neg fun h => (hkey.1 h).1 h1]
      · by_cases h2 : b1 > r2
        · rw [if_neg h1, if_pos h2, if_neg fun h => (hkey.1 h).2.1 h2]
        · by_cases h3 : c > b4
          · rw [if_neg h1, if_neg h2, if_pos h3, if_neg fun h => (hkey.1 h).2.2.1 h3]
          · by_cases h4 : b2 > c2
            · rw [if_neg h1, if_neg h2, if_neg h3, if_pos h4, if_neg fun h => (hkey.1 h).2.2.2 h4]
            · rw [if_neg h1, if_neg h2, if_neg h3, if_neg h4, if_pos (hkey.2 ⟨h1, h2, h3, h4⟩)]
    · rw [if_pos ha, if_neg hb, if_neg fun h : Both r c r2 c2 b1 b2 b3 b4 => hb h.2.1]
  · rw [if_neg ha, if_neg fun h : Both r c r2 c2 b1 b2 b3 b4 => ha h.1]
theorem CoordMeets : ∀ (a0_0 : Int) (a0_1 : Int) (a0_2 : Int) (a0_3 : Int) (a1_0 : Int) (a1_1 : Int) (a1_2 : Int) (a1_3 : Int) (a2_0 : Int) (a2_1 : Int) (a2_2 : Bool) (a2_3 : Bool), (Lit.int .i64 a0_0).wf = true → (Lit.int .i64 a0_1).wf = true → (Lit.int .i64 a0_2).wf = true → (Lit.int .i64 a0_3).wf = true → (Lit.int .i64 a1_0).wf = true → (Lit.int .i64 a1_1).wf = true → (Lit.int .i64 a1_2).wf = true → (Lit.int .i64 a1_3).wf = true → (Lit.int .i64 a2_0).wf = true → (Lit.int .i64 a2_1).wf = true → ∃ k, cadastrelaw06_CoordMeets.f k a0_0 a0_1 a0_2 a0_3 a1_0 a1_1 a1_2 a1_3 a2_0 a2_1 a2_2 a2_3 = some true := by
  intro r c r2 c2 b1 b2 b3 b4 row col x y _ _ _ _ _ _ _ _ _ _
  refine ⟨0 + 1, ?_⟩
  unfold cadastrelaw06_CoordMeets.f
  rw [meet_eq, rmeet_eq]
  simp only [Option.bind_some]
  rw [if_neg (by simp), if_neg (by simp), Area_eq, rArea_eq]
  simp only [Option.bind_some]
  rw [if_pos trivial, Area_eq, Area_eq]
  simp only [Option.bind_some]
  have nonneg : ∀ r c r2 c2 : Int, 0 ≤ (if Ok r c r2 c2 then (r2 - r + 1) * (c2 - c + 1) else 0) := by
    intro r c r2 c2
    by_cases h : Ok r c r2 c2
    · rw [if_pos h]; have := (area_val h).2.1; omega
    · rw [if_neg h]; omega
  by_cases hB : Both r c r2 c2 b1 b2 b3 b4
  · have hB' := hB
    obtain ⟨ha, hb, ho⟩ := hB'
    have l1 : (min r2 b3 - max r b1 + 1) * (min c2 b4 - max c b2 + 1) ≤ (r2 - r + 1) * (c2 - c + 1) := by
      unfold Ok In at ha hb ho
      exact Int.mul_le_mul (by omega) (by omega) (by omega) (by omega)
    have l2 : (min r2 b3 - max r b1 + 1) * (min c2 b4 - max c b2 + 1) ≤ (b3 - b1 + 1) * (b4 - b2 + 1) := by
      unfold Ok In at ha hb ho
      exact Int.mul_le_mul (by omega) (by omega) (by omega) (by omega)
    simp only [if_pos hB]
    rw [if_pos ho, if_pos ha, if_pos hb, if_neg (by omega), if_neg (by omega), has_eq, has_eq, has_eq, rhas_eq, lives_ok]
    simp only [Option.bind_some]
    have hk : HasP (max r b1) (max c b2) (min r2 b3) (min c2 b4) row col ↔ HasP r c r2 c2 row col ∧ HasP b1 b2 b3 b4 row col := by
      constructor
      · intro ⟨_, h⟩; exact ⟨⟨ha, by omega⟩, ⟨hb, by omega⟩⟩
      · intro ⟨⟨_, h⟩, ⟨_, h'⟩⟩; exact ⟨ho, by omega⟩
    by_cases h1 : HasP r c r2 c2 row col
    · by_cases h2 : HasP b1 b2 b3 b4 row col
      · simp [h1, h2, hk.2 ⟨h1, h2⟩]
      · simp [h1, h2, show ¬ HasP (max r b1) (max c b2) (min r2 b3) (min c2 b4) row col from fun h => h2 (hk.1 h).2]
    · simp [h1, show ¬ HasP (max r b1) (max c b2) (min r2 b3) (min c2 b4) row col from fun h => h1 (hk.1 h).1]
  · simp only [if_neg hB]
    have z : ¬ Ok 0 0 0 0 := by decide
    have n1 := nonneg r c r2 c2
    have n2 := nonneg b1 b2 b3 b4
    rw [if_neg z, if_neg (by omega), if_neg (by omega), has_eq, has_eq, has_eq, rhas_eq, lives_ok]
    simp only [Option.bind_some]
    have hz : ¬ HasP 0 0 0 0 row col := fun h => z h.1
    have hn : ¬ (HasP r c r2 c2 row col ∧ HasP b1 b2 b3 b4 row col) := by
      intro ⟨⟨ha, h⟩, ⟨hb, h'⟩⟩
      refine hB ⟨ha, hb, ?_⟩
      unfold Ok In at *
      omega
    by_cases h1 : HasP r c r2 c2 row col
    · have h2 : ¬ HasP b1 b2 b3 b4 row col := fun h => hn ⟨h1, h⟩
      simp [h1, h2, hz]
    · simp [h1, hz]
end Go.Proofs.YtmopbhddebpgbaaDoor.Pure
