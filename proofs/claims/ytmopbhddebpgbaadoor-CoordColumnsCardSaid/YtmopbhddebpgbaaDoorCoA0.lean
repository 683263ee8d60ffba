/- What the document says of places and columns. -/
import Derived.Test.YtmopbhddebpgbaaDoorCoA1
import Derived.Test.YtmopbhddebpgbaaDoorQCoordx8
import Derived.Test.YtmopbhddebpgbaaDoorQCoordx9
namespace Go.Proofs.YtmopbhddebpgbaaDoor.QCoord
set_option linter.unusedSimpArgs false
open Go.RowKit Go.Proofs.YtmopbhddebpgbaaDoorW.PrintWords Go.Proofs.YtmopbhddebpgbaaDoorW.PrintLast Go.Proofs.YtmopbhddebpgbaaDoorW.PrintMore
theorem rin_eq (a b : Int) : cadastreref06_In.f a b = some (decide (In a b)) := rfl

theorem rcolName_eq (k : Nat) (c : Int) : ∃ s, cadastreref06_ColName.f (k + 1) c = some s ∧ bytesOf s = nm c := by
  unfold cadastreref06_ColName.f
  by_cases h1 : c < 1
  · rw [if_pos h1]
    exact ⟨_, rfl, by rw [nm_none (.inl h1)]; rfl⟩
  · rw [if_neg h1]
    by_cases h2 : c > 52
    · rw [decide_eq_true h2]
      exact ⟨_, rfl, by rw [nm_none (.inr h2)]; rfl⟩
    · rw [decide_eq_false h2]
      simp only [cadastreref06_ColName.j0]
      rw [if_neg (by simp)]
      have hw : wrap64 (c - 1) = c - 1 := by unfold wrap64; omega
      rw [hw]
      have hm : Int.tmod (c - 1) 26 = (c - 1) % 26 := Int.tmod_eq_emod_of_nonneg (by omega)
      rw [hm, if_pos (by omega), if_pos (by omega)]
      have hl : ∀ m : Nat, m < 26 → bt (⟨#[65, 66, 67, 68, 69, 70, 71, 72, 73, 74, 75, 76, 77, 78, 79, 80, 81, 82, 83, 84, 85, 86, 87, 88, 89, 90]⟩ : ByteArray) m = 65 + m := by decide
      obtain ⟨m, hm2⟩ : ∃ m : Nat, (c - 1) % 26 = m := ⟨((c - 1) % 26).toNat, by omega⟩
      rw [hm2, hl m (by omega)]
      simp only [Option.bind_some]
      have hb := bytesOf_nums [65 + (m : Int)] (by intro x hx; simp at hx; omega)
      have hs : (strOfNums [65 + (m : Int)]).size = 1 := by rw [strOfNums_size]; rfl
      by_cases h3 : c > 26
      · rw [if_pos h3, hs, if_pos (by omega)]
        refine ⟨_, rfl, ?_⟩
        rw [bytesOf_append, hb, nm_two ⟨by omega, by omega⟩]
        show [(65 : Int)] ++ [65 + (m : Int)] = _
        simp only [List.cons_append, List.nil_append, List.cons.injEq, and_true, true_and]
        omega
      · rw [if_neg h3]
        refine ⟨_, rfl, ?_⟩
        rw [hb, nm_one ⟨by omega, by omega⟩]
        congr 1
        omega

end Go.Proofs.YtmopbhddebpgbaaDoor.QCoord
