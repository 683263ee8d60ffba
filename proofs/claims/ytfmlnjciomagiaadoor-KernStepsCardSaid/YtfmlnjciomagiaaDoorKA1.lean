/- Two columns that are one, the small living call, and sums of plain numbers. -/
import Derived.Test.YtfmlnjciomagiaaDoorKA0
import Derived.Test.YtfmlnjciomagiaaDoorQKernx11
namespace Go.Proofs.YtfmlnjciomagiaaDoor.QKern
set_option linter.unusedSimpArgs false
open Go.RowKit Go.Proofs.YtfmlnjciomagiaaDoorW.PrintWords Go.Proofs.YtfmlnjciomagiaaDoorW.PrintLast Go.Proofs.YtfmlnjciomagiaaDoorW.PrintMore
theorem rd_nat {N : List Int} {i : Nat} (h : i < N.length) : rd N i = N[i] := by
  unfold rd
  rw [Int.toNat_natCast, List.getD_eq_getElem?_getD, List.getElem?_eq_getElem h]; rfl
theorem drop_rd {N : List Int} {i : Nat} (h : i < N.length) : N.drop i = rd N i :: N.drop (i + 1) := by
  rw [rd_nat h]; exact List.drop_eq_getElem_cons h
theorem same_l1 (A B C D : List Int) (hl : B.length = D.length) (hs : B.length ≤ 4611686018427387904) : ∀ (d k i : Nat), i + d = B.length → d + 1 ≤ k → cadastreref19_Same.l1 k i A B C D = some (decide (B.drop i = D.drop i)) := by
  intro d
  induction d with
  | zero =>
    intro k i hi hk
    obtain ⟨k, rfl⟩ : ∃ m, k = m + 1 := ⟨k - 1, by omega⟩
    simp only [cadastreref19_Same.l1]
    rw [if_neg (by omega), List.drop_of_length_le (by omega), List.drop_of_length_le (by omega)]; rfl
  | succ d ih =>
    intro k i hi hk
    obtain ⟨k, rfl⟩ : ∃ m, k = m + 1 := ⟨k - 1, by omega⟩
    simp only [cadastreref19_Same.l1]
    have hw : wrap64 ((i : Int) + 1) = ((i + 1 : Nat) : Int) := by unfold wrap64; omega
    rw [if_pos (by omega), if_pos (by omega), if_pos (by omega), hw, drop_rd (N := B) (i := i) (by omega), drop_rd (N := D) (i := i) (by omega)]
    by_cases h : rd B i = rd D i
    · rw [if_pos h, ih k (i + 1) (by omega) (by omega)]; simp [h]
    · rw [if_neg h]; simp [h]
theorem same_l0 (A B C D : List Int) (hl0 : A.length = C.length) (hs0 : A.length ≤ 4611686018427387904) (hl : B.length = D.length) (hs : B.length ≤ 4611686018427387904) : ∀ (d k i : Nat), i + d = A.length → d + B.length + 2 ≤ k → cadastreref19_Same.l0 k i A B C D = some (decide (A.drop i = C.drop i ∧ B = D)) := by
  intro d
  induction d with
  | zero =>
    intro k i hi hk
    obtain ⟨k, rfl⟩ : ∃ m, k = m + 1 := ⟨k - 1, by omega⟩
    simp only [cadastreref19_Same.l0]
    rw [if_neg (by omega), List.drop_of_length_le (by omega), List.drop_of_length_le (by omega)]
    have := same_l1 A B C D hl hs B.length k 0 (by omega) (by omega)
    rw [show ((0 : Nat) : Int) = 0 from rfl, List.drop_zero, List.drop_zero] at this
    rw [this]; simp
  | succ d ih =>
    intro k i hi hk
    obtain ⟨k, rfl⟩ : ∃ m, k = m + 1 := ⟨k - 1, by omega⟩
    simp only [cadastreref19_Same.l0]
    have hw : wrap64 ((i : Int) + 1) = ((i + 1 : Nat) : Int) := by unfold wrap64; omega
    rw [if_pos (by omega), if_pos (by omega), if_pos (by omega), hw, drop_rd (N := A) (i := i) (by omega), drop_rd (N := C) (i := i) (by omega)]
    by_cases h : rd A i = rd C i
    · rw [if_pos h, ih k (i + 1) (by omega) (by omega)]; simp [h]
    · rw [if_neg h]; simp [h]
theorem same_eq (A B C D : List Int) (hA : A.length ≤ 4611686018427387904) (hB : B.length ≤ 4611686018427387904) (k : Nat) (hk : A.length + B.length + 3 ≤ k) : cadastreref19_Same.f k A B C D = some (decide (A = C ∧ B = D)) := by
  obtain ⟨k, rfl⟩ : ∃ m, k = m + 1 := ⟨k - 1, by omega⟩
  unfold cadastreref19_Same.f
  by_cases h1 : (A.length : Int) = C.length
  · rw [if_pos h1]
    simp only [cadastreref19_Same.j0]
    by_cases h2 : (B.length : Int) = D.length
    · rw [if_neg (by simp; omega)]
      have := same_l0 A B C D (by omega) hA (by omega) hB A.length k 0 (by omega) (by omega)
      rw [show ((0 : Nat) : Int) = 0 from rfl, List.drop_zero, List.drop_zero] at this
      exact this
    · rw [if_pos (by simp; omega)]
      have : ¬ (A = C ∧ B = D) := by rintro ⟨rfl, rfl⟩; exact h2 rfl
      rw [decide_eq_false this]
  · rw [if_neg h1]
    simp only [cadastreref19_Same.j0, if_true]
    have : ¬ (A = C ∧ B = D) := by rintro ⟨rfl, rfl⟩; exact h1 rfl
    rw [decide_eq_false this]
theorem lives_ok (k : Nat) (hk : 2005 ≤ k) : cadastrelaw23_lives.f k = some true := by
  unfold cadastrelaw23_lives.f
  rw [scan_eq k hk [1, 2, 3] [0, 0, 0] (by intro x hx; simp at hx; omega) 0 3 (by omega) (by omega) (by simp)]
  have h1 : scanOk [1, 2, 3] [0, 0, 0] 0 3 = true := by decide +kernel
  have h2 : scanN [1, 2, 3] [0, 0, 0] (0 : Int).toNat (3 : Int).toNat ((0 : Int).toNat + (3 : Int).toNat) = [1, 3, 6] := by decide +kernel
  have h3 : scanE [1, 2, 3] [0, 0, 0] (0 : Int).toNat (3 : Int).toNat ((0 : Int).toNat + (3 : Int).toNat) = [0, 0, 0] := by decide +kernel
  rw [if_pos h1, h2, h3]
  simp only [Option.bind_some, if_true]
  rw [same_eq _ _ _ _ (by simp) (by simp) k (by simp; omega)]
  simp
end Go.Proofs.YtfmlnjciomagiaaDoor.QKern
