/- CoordRects: the pure statement, proved: plain Lean over what the printed functions answer; no condition. -/
import Derived.Test.YtmopbhddebpgbaaDoorCoA4
import Derived.Test.YtmopbhddebpgbaaDoorQCoordx29
set_option linter.unusedSimpArgs false
set_option linter.unusedVariables false
namespace Go.Proofs.YtmopbhddebpgbaaDoor.Pure
open Go.RowKit Go.Proofs.YtmopbhddebpgbaaDoorW.PrintWords Go.Proofs.YtmopbhddebpgbaaDoorW.PrintLast Go.Proofs.YtmopbhddebpgbaaDoorW.PrintMore Go.Proofs.YtmopbhddebpgbaaDoor.QCoord
theorem CoordRects : ∀ (a0_0 : Int) (a0_1 : Int) (a0_2 : Bool) (a0_3 : Bool) (a1_0 : Int) (a1_1 : Int) (a1_2 : Bool) (a1_3 : Bool) (a2 : Int), (Lit.int .i64 a0_0).wf = true → (Lit.int .i64 a0_1).wf = true → (Lit.int .i64 a1_0).wf = true → (Lit.int .i64 a1_1).wf = true → (Lit.int .i64 a2).wf = true → ∃ k, cadastrelaw06_CoordRects.f k a0_0 a0_1 a0_2 a0_3 a1_0 a1_1 a1_2 a1_3 a2 = some true := by
  intro r c b1 b2 r2 c2 b3 b4 row _ _ _ _ _
  refine ⟨0 + 1 + 1 + 1, ?_⟩
  have least : ∀ x y : Int, cadastreref06_Least.f x y = some (min x y) := by
    intro x y; unfold cadastreref06_Least.f; split <;> congr 1 <;> omega
  have great : ∀ x y : Int, cadastreref06_Great.f x y = some (max x y) := by
    intro x y; unfold cadastreref06_Great.f; split <;> congr 1 <;> omega
  have hr : ∀ (r c r2 c2 : Int) (b1 b2 b3 b4 : Bool), coord_Rect.f r c b1 b2 r2 c2 b3 b4 = some (if In r c ∧ In r2 c2 then (min r r2, min c c2, max r r2, max c c2) else (0, 0, 0, 0)) := fun _ _ _ _ _ _ _ _ => rfl
  have hrr : cadastreref06_Rect.f (0 + 1 + 1 + 1) r c b1 b2 r2 c2 b3 b4 = some (if In r c ∧ In r2 c2 then (min r r2, min c c2, max r r2, max c c2) else (0, 0, 0, 0)) := by
    unfold cadastreref06_Rect.f
    rw [rin_eq4, rin_eq4]
    simp only [Option.bind_some, cadastreref06_Rect.j0, least, great]
    by_cases h1 : In r c
    · rw [decide_eq_true h1]
      by_cases h2 : In r2 c2
      · rw [decide_eq_true h2, if_pos (⟨h1, h2⟩ : In r c ∧ In r2 c2)]; rfl
      · rw [decide_eq_false h2, if_neg fun h : In r c ∧ In r2 c2 => h2 h.2]; rfl
    · rw [decide_eq_false h1, if_neg fun h : In r c ∧ In r2 c2 => h1 h.1]; rfl
  have hsym : (if In r2 c2 ∧ In r c then (min r2 r, min c2 c, max r2 r, max c2 c) else (0, 0, 0, 0)) = (if In r c ∧ In r2 c2 then (min r r2, min c c2, max r r2, max c c2) else (0, 0, 0, 0)) := by
    by_cases h : In r c ∧ In r2 c2
    · rw [if_pos h, if_pos ⟨h.2, h.1⟩]
      simp only [Prod.mk.injEq]; omega
    · rw [if_neg h, if_neg fun g => h ⟨g.2, g.1⟩]
  unfold cadastrelaw06_CoordRects.f
  rw [hr, hrr, hr, hsym]
  simp only [Option.bind_some]
  have hhas : decide (HasP (if In r c ∧ In r2 c2 then (min r r2, min c c2, max r r2, max c c2) else (0, 0, 0, 0)).1 (if In r c ∧ In r2 c2 then (min r r2, min c c2, max r r2, max c c2) else (0, 0, 0, 0)).2.1 (if In r c ∧ In r2 c2 then (min r r2, min c c2, max r r2, max c c2) else (0, 0, 0, 0)).2.2.1 (if In r c ∧ In r2 c2 then (min r r2, min c c2, max r r2, max c c2) else (0, 0, 0, 0)).2.2.2 r c2) = decide (In r c ∧ In r2 c2) := by
    refine decide_eq_decide.mpr ?_
    by_cases h : In r c ∧ In r2 c2
    · rw [if_pos h]
      show HasP (min r r2) (min c c2) (max r r2) (max c c2) r c2 ↔ _
      unfold HasP Ok In
      unfold In at h
      omega
    · rw [if_neg h]
      show HasP 0 0 0 0 r c2 ↔ _
      exact ⟨fun g => absurd g.1.1.1 (by omega), fun g => absurd g h⟩
  generalize (if In r c ∧ In r2 c2 then (min r r2, min c c2, max r r2, max c c2) else (0, 0, 0, 0)) = p at *
  rw [Area_eq, rArea_eq]
  rw [if_neg (by simp), if_neg (by simp)]
  simp only [Option.bind_some, bne_self_eq_false, cadastrelaw06_CoordRects.j0]
  rw [if_neg (by simp), rin_eq4, rin_eq4]
  simp only [Option.bind_some, cadastrelaw06_CoordRects.j1, has_eq, rhas_eq, hhas, lives_ok]
  by_cases h1 : In r c <;> by_cases h2 : In r2 c2 <;> simp [h1, h2]
end Go.Proofs.YtmopbhddebpgbaaDoor.Pure
