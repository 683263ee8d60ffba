/- KernSteps: the pure statement, proved: plain Lean over what the printed functions answer; no condition. -/
import Derived.Test.YtfmlnjciomagiaaDoorKA2
import Derived.Test.YtfmlnjciomagiaaDoorQKernx13
set_option linter.unusedSimpArgs false
set_option linter.unusedVariables false
namespace Go.Proofs.YtfmlnjciomagiaaDoor.Pure
open Go.RowKit Go.Proofs.YtfmlnjciomagiaaDoorW.PrintWords Go.Proofs.YtfmlnjciomagiaaDoorW.PrintLast Go.Proofs.YtfmlnjciomagiaaDoorW.PrintMore Go.Proofs.YtfmlnjciomagiaaDoor.QKern
theorem KernSteps : ∀ (l0 : List Int) (a1 : Int), l0.length ≤ maxLen → l0.length * 4 ≤ 140737488351232 → (∀ x ∈ l0, (Lit.int .i32 x).wf = true) → (Lit.int .u8 a1).wf = true → ∃ k, cadastrelaw23_KernSteps.f k l0 a1 = some true := by
  intro l a1 _ _ hw ha'
  have h : In32 l := by
    intro x hx
    have := hw x hx
    simp [Lit.wf, IntKind.min, IntKind.max, IntKind.signed, IntKind.bits] at this
    omega
  have ha : 0 ≤ a1 ∧ a1 ≤ 255 := by
    simp [Lit.wf, IntKind.min, IntKind.max, IntKind.signed, IntKind.bits] at ha'
    omega
  refine ⟨4001, ?_⟩
  unfold cadastrelaw23_KernSteps.f
  by_cases h0 : (l.length : Int) = 0
  · rw [if_pos h0]
    simp only [cadastrelaw23_KernSteps.j0, if_true]
    rw [lives_ok 4000 (by omega)]; rfl
  · rw [if_neg h0]
    simp only [cadastrelaw23_KernSteps.j0]
    by_cases h1 : (l.length : Int) > 200
    · rw [if_pos (decide_eq_true h1), lives_ok 4000 (by omega)]; rfl
    · rw [if_neg (by simpa using h1), if_pos (by omega), if_pos (by omega)]
      exact steps_l0 h (by omega) (by omega) a1 ha l.length 4000 0 (by omega) (by omega)
end Go.Proofs.YtfmlnjciomagiaaDoor.Pure
