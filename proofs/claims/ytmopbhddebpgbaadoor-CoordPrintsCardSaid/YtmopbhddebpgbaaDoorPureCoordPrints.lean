/- CoordPrints: the pure statement, proved: plain Lean over what the printed functions answer; no condition. -/
import Derived.Test.YtmopbhddebpgbaaDoorCoA1
import Derived.Test.YtmopbhddebpgbaaDoorCoA3
import Derived.Test.YtmopbhddebpgbaaDoorQCoordx20
set_option linter.unusedSimpArgs false
set_option linter.unusedVariables false
namespace Go.Proofs.YtmopbhddebpgbaaDoor.Pure
open Go.RowKit Go.Proofs.YtmopbhddebpgbaaDoorW.PrintWords Go.Proofs.YtmopbhddebpgbaaDoorW.PrintLast Go.Proofs.YtmopbhddebpgbaaDoorW.PrintMore Go.Proofs.YtmopbhddebpgbaaDoor.QCoord
theorem CoordPrints : ∀ (a0_0 : Int) (a0_1 : Int) (a0_2 : Bool) (a0_3 : Bool), (Lit.int .i64 a0_0).wf = true → (Lit.int .i64 a0_1).wf = true → ∃ k, cadastrelaw06_CoordPrints.f k a0_0 a0_1 a0_2 a0_3 = some true := by
  intro r c ar ac _ _
  refine ⟨0 + 10, ?_⟩
  unfold cadastrelaw06_CoordPrints.f
  rw [rin_eq, In_eq]
  by_cases hin : In r c
  · obtain ⟨t, ht, hb⟩ := print_eq 9 ar ac hin
    obtain ⟨u, hu, hc⟩ := rprint_eq 0 ar ac hin
    have hs : t.size ≤ 140737488351232 := by
      have h1 := @nm_size c
      have h2 := @dec_size r
      have h3 : (dol ac).length ≤ 1 := by cases ac <;> simp [dol]
      have h4 : (dol ar).length ≤ 1 := by cases ar <;> simp [dol]
      exact size_of hb (by simp only [List.length_append]; omega)
    rw [show (0 + 10 : Nat) = 9 + 1 from rfl, ht]
    simp only [Option.bind_some]
    rw [parse_good hs hin hb, show (9 + 1 : Nat) = 0 + 10 from rfl, hu, decide_eq_true hin]
    simp only [Option.bind_some]
    rw [if_pos (bytesOf_toList.2 (by rw [hb, hc])), if_pos (by simp), if_pos trivial, if_pos (by simp), if_pos (by simp), lives_ok]; rfl
  · rw [print_no _ ar ac hin, rprint_no _ ar ac hin, decide_eq_false hin]
    simp only [Option.bind_some]
    have hb : coord_Parse.f (⟨#[]⟩ : ByteArray) = some bad := by
      rcases parse_run (s := ⟨#[]⟩) (by decide) with h | ⟨r', c', ar', ac', _, hi, hb⟩
      · exact h
      · have h1 := congrArg List.length hb
        have h2 := nm_pos hi.2.2
        have h3 : (bytesOf (⟨#[]⟩ : ByteArray)).length = 0 := rfl
        simp only [List.length_append] at h1
        omega
    rw [hb]
    simp only [Option.bind_some]
    rw [if_pos trivial, if_pos (by simp), if_neg (by simp), if_pos (by simp), lives_ok]; rfl
end Go.Proofs.YtmopbhddebpgbaaDoor.Pure
