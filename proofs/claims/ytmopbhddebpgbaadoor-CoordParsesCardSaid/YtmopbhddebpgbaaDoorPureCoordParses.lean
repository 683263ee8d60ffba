/- CoordParses: the pure statement, proved: plain Lean over what the printed functions answer; no condition. -/
import Derived.Test.YtmopbhddebpgbaaDoorCoA2
import Derived.Test.YtmopbhddebpgbaaDoorQCoordx16
set_option linter.unusedSimpArgs false
set_option linter.unusedVariables false
namespace Go.Proofs.YtmopbhddebpgbaaDoor.Pure
open Go.RowKit Go.Proofs.YtmopbhddebpgbaaDoorW.PrintWords Go.Proofs.YtmopbhddebpgbaaDoorW.PrintLast Go.Proofs.YtmopbhddebpgbaaDoorW.PrintMore Go.Proofs.YtmopbhddebpgbaaDoor.QCoord
theorem CoordParses : ∀ (a0 : ByteArray), a0.size ≤ 140737488351232 → ∃ k, cadastrelaw06_CoordParses.f k a0 = some true := by
  intro s hs
  obtain ⟨v, K0, h1, h2, h3⟩ := parse_both hs
  refine ⟨K0 + 1, ?_⟩
  unfold cadastrelaw06_CoordParses.f
  rw [h1, h2 (K0 + 1) (by omega)]
  simp only [Option.bind_some]
  rw [if_pos (by simp), if_pos (by simp)]
  rcases h3 with rfl | ⟨r, c, ar, ac, rfl, hin, hb⟩
  · rw [if_neg (by simp), lives_ok]; rfl
  · rw [if_pos rfl]
    obtain ⟨t, ht, hc⟩ := print_eq K0 ar ac hin
    rw [ht]
    simp only [Option.bind_some]
    rw [if_pos (bytesOf_toList.2 (by rw [hc, hb])), lives_ok]; rfl
end Go.Proofs.YtmopbhddebpgbaaDoor.Pure
