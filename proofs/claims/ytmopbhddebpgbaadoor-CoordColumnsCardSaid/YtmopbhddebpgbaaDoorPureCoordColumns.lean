/- CoordColumns: the pure statement, proved: plain Lean over what the printed functions answer; no condition. -/
import Derived.Test.YtmopbhddebpgbaaDoorCoA2
import Derived.Test.YtmopbhddebpgbaaDoorQCoordx22
set_option linter.unusedSimpArgs false
set_option linter.unusedVariables false
namespace Go.Proofs.YtmopbhddebpgbaaDoor.Pure
open Go.RowKit Go.Proofs.YtmopbhddebpgbaaDoorW.PrintWords Go.Proofs.YtmopbhddebpgbaaDoorW.PrintLast Go.Proofs.YtmopbhddebpgbaaDoorW.PrintMore Go.Proofs.YtmopbhddebpgbaaDoor.QCoord
theorem CoordColumns : ∀ (a0 : Int) (a1 : ByteArray), (Lit.int .i64 a0).wf = true → a1.size ≤ 140737488351232 → ∃ k, cadastrelaw06_CoordColumns.f k a0 a1 = some true := by
  intro c s _ hs
  refine ⟨59 + 1, ?_⟩
  unfold cadastrelaw06_CoordColumns.f
  obtain ⟨t, ht, hb⟩ := colName_eq 59 c
  obtain ⟨u, hu, hc⟩ := rcolName_eq 59 c
  have h1 : coord_ColName.f (59 + 1) c = some t := by unfold coord_ColName.f; rw [ht]; rfl
  have hn : ∀ s : ByteArray, s.size ≤ 140737488351232 → coord_ColNumber.f s = some (coord_colNumber.num (bytesOf s)) := by
    intro s hs
    unfold coord_ColNumber.f coord_colNumber.f
    rw [if_pos hs]; rfl
  rw [h1, hu, hn s hs, rcolNumber_eq (59 + 1) (by omega)]
  simp only [Option.bind_some]
  rw [if_pos (bytesOf_toList.2 (by rw [hb, hc])), if_pos trivial, lives_ok]
  simp only [Option.bind_some]
  by_cases he : t.toList = ([] : List UInt8)
  · rw [if_pos he]
  · rw [if_neg he, hn t (size_of hb (Nat.le_trans nm_size (by omega)))]
    simp only [Option.bind_some]
    rw [hb]
    have hin : 1 ≤ c ∧ c ≤ 52 := by
      by_cases h : 1 ≤ c ∧ c ≤ 52
      · exact h
      · exfalso
        refine he ?_
        have : t = ⟨#[]⟩ := bytesOf_inj (by rw [hb, nm_none (by omega)]; rfl)
        rw [this, ByteArray.toList_eq]
    rw [num_nm hin, if_pos rfl]
end Go.Proofs.YtmopbhddebpgbaaDoor.Pure
