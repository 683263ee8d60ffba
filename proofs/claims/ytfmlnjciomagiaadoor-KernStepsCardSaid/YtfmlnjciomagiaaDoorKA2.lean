/- Sums that go on, of lanes without errors. -/
import Derived.Test.YtfmlnjciomagiaaDoorKA1
import Derived.Test.YtfmlnjciomagiaaDoorQKernx13
namespace Go.Proofs.YtfmlnjciomagiaaDoor.QKern
set_option linter.unusedSimpArgs false
open Go.RowKit Go.Proofs.YtfmlnjciomagiaaDoorW.PrintWords Go.Proofs.YtfmlnjciomagiaaDoorW.PrintLast Go.Proofs.YtfmlnjciomagiaaDoorW.PrintMore
def In32 (l : List Int) : Prop := ∀ x ∈ l, -2147483648 ≤ x ∧ x ≤ 2147483647
theorem rd_in32 {N : List Int} (h : In32 N) (i : Int) : -2147483648 ≤ rd N i ∧ rd N i ≤ 2147483647 := by
  unfold rd
  by_cases hi : i.toNat < N.length
  · rw [List.getD_eq_getElem?_getD, List.getElem?_eq_getElem hi]; exact h _ (List.getElem_mem hi)
  · rw [List.getD_eq_getElem?_getD, List.getElem?_eq_none (by omega)]; simp
theorem In32.in64 {l : List Int} (h : In32 l) : In64 l := fun x hx => by have := h x hx; omega
theorem pre_in32 {N : List Int} (h : In32 N) : ∀ t : Nat, -(2147483648 * t) ≤ pre N t ∧ pre N t ≤ 2147483648 * t := by
  intro t
  induction t with
  | zero => simp [pre]
  | succ t ih => have := rd_in32 h t; simp only [pre]; omega
theorem rd_zeros (n : Nat) (i : Int) : rd (List.replicate n 0) i = 0 := by
  unfold rd
  rw [List.getD_eq_getElem?_getD, List.getElem?_replicate]
  split <;> rfl
theorem ferr_zeros (n t : Nat) : ferr (List.replicate n 0) t = 0 := by
  induction t with
  | zero => rfl
  | succ t ih => simp only [ferr, ih, if_true, rd_zeros]
theorem lanes_zeros {l : List Int} (h : In32 l) (n : Nat) : ∀ (d : Nat) (i : Int), lanesOk l (List.replicate n 0) i d = true := by
  intro d
  induction d with
  | zero => intro i; rfl
  | succ d ih =>
    intro i
    simp only [lanesOk, laneOk, rd_zeros, if_true, ih, Bool.and_true, decide_eq_true_eq]
    have := rd_in32 h i
    show ¬ rd l i = -9223372036854775808
    omega
theorem scanAt_zeros {l : List Int} (h : In32 l) (n t : Nat) (ht : t ≤ 1000) : scanAt l (List.replicate n 0) t = (pre l (t + 1), 0) := by
  unfold scanAt tell
  have := pre_in32 h (t + 1)
  rw [ferr_zeros, if_pos rfl, if_pos (by omega)]
theorem steps_l1 {l : List Int} (h : In32 l) (hs : l.length ≤ 200) (first : Nat) (hf : first < l.length) : ∀ (d k i : Nat), i + d = l.length → d + 2006 ≤ k →
    cadastrelaw23_KernSteps.l1 k l first (pre l i) i (scanN l (List.replicate l.length 0) first (l.length - first) l.length) (scanE l (List.replicate l.length 0) first (l.length - first) l.length) = some true := by
  intro d
  induction d with
  | zero =>
    intro k i hi hk
    obtain ⟨k, rfl⟩ : ∃ m, k = m + 1 := ⟨k - 1, by omega⟩
    simp only [cadastrelaw23_KernSteps.l1]
    rw [if_neg (by omega), lives_ok k (by omega)]; rfl
  | succ d ih =>
    intro k i hi hk
    obtain ⟨k, rfl⟩ : ∃ m, k = m + 1 := ⟨k - 1, by omega⟩
    simp only [cadastrelaw23_KernSteps.l1]
    have hw : wrap64 ((i : Int) + 1) = ((i + 1 : Nat) : Int) := by unfold wrap64; omega
    have hr := rd_in32 h i
    have hp := pre_in32 h i
    have hw2 : wrap64 (rd l i) = rd l i := by unfold wrap64; omega
    have hw3 : wrap64 (pre l i + rd l i) = pre l (i + 1) := by simp only [pre]; unfold wrap64; omega
    rw [if_pos (by omega), if_pos (by omega), hw, hw2, hw3]
    by_cases hfi : (i : Int) ≥ first
    · have hw4 : wrap64 ((i : Int) - first) = ((i - first : Nat) : Int) := by unfold wrap64; omega
      have l1 : (scanN l (List.replicate l.length 0) first (l.length - first) l.length).length = l.length - first := by simp [scanN]
      have l2 : (scanE l (List.replicate l.length 0) first (l.length - first) l.length).length = l.length - first := by simp [scanE]
      have e1 : rd (scanN l (List.replicate l.length 0) first (l.length - first) l.length) ((i - first : Nat) : Int) = pre l (i + 1) := by
        rw [rd_nat (by omega)]
        simp only [scanN, List.getElem_map, List.getElem_range]
        rw [if_pos (by omega), scanAt_zeros h _ _ (by omega)]
        rw [show first + (i - first) = i by omega]
      have e2 : rd (scanE l (List.replicate l.length 0) first (l.length - first) l.length) ((i - first : Nat) : Int) = 0 := by
        rw [rd_nat (by omega)]
        simp only [scanE, List.getElem_map, List.getElem_range]
        rw [if_pos (by omega), scanAt_zeros h _ _ (by omega)]
      rw [if_pos hfi, hw4, if_pos (by omega), if_pos (by omega), if_pos e1, if_pos (by omega), if_pos e2]
      exact ih k (i + 1) (by omega) (by omega)
    · rw [if_neg hfi]
      exact ih k (i + 1) (by omega) (by omega)
theorem steps_l0 {l : List Int} (h : In32 l) (hs : l.length ≤ 200) (h0 : 0 < l.length) (a1 : Int) (ha : 0 ≤ a1 ∧ a1 ≤ 255) : ∀ (d k i : Nat), i + d = l.length → d + 3000 ≤ k →
    cadastrelaw23_KernSteps.l0 k l a1 i (l.take i) (List.replicate l.length 0) = some true := by
  intro d
  induction d with
  | zero =>
    intro k i hi hk
    obtain ⟨k, rfl⟩ : ∃ m, k = m + 1 + 1 := ⟨k - 2, by omega⟩
    simp only [cadastrelaw23_KernSteps.l0]
    rw [if_neg (by omega), if_neg (by omega), List.take_of_length_le (by omega)]
    have hw1 : wrap64 a1 = a1 := by unfold wrap64; omega
    have hm : Int.tmod a1 (l.length : Int) = a1 % l.length := Int.tmod_eq_emod_of_nonneg ha.1
    have hm1 := Int.emod_nonneg a1 (b := (l.length : Int)) (by omega)
    have hm2 := Int.emod_lt_of_pos a1 (b := (l.length : Int)) (by omega)
    rw [hw1, hm]
    obtain ⟨f, hf⟩ : ∃ f : Nat, a1 % l.length = f := ⟨(a1 % l.length).toNat, by omega⟩
    rw [hf] at hm1 hm2 ⊢
    have hw2 : wrap64 ((l.length : Int) - f) = ((l.length - f : Nat) : Int) := by unfold wrap64; omega
    rw [hw2]
    unfold cadastreref19_Own.f
    simp only [Option.bind_some, List.length_nil, List.length_replicate, List.nil_append, Nat.zero_add]
    rw [if_pos (by omega), if_pos (by omega)]
    simp only [Option.bind_some]
    rw [scan_eq (k + 1) (by omega) l (List.replicate l.length 0) h.in64 f ((l.length - f : Nat) : Int) (by omega) (by omega) (by omega)]
    have hok : scanOk l (List.replicate l.length 0) f ((l.length - f : Nat) : Int) = true := by
      unfold scanOk colOk
      simp only [lanes_zeros h, List.length_replicate, Bool.and_true, Bool.and_eq_true, decide_eq_true_eq]
      refine ⟨⟨⟨⟨trivial, ?_⟩, ?_⟩, ?_⟩, ?_⟩ <;> omega
    rw [if_pos hok]
    simp only [Option.bind_some, if_true, Int.toNat_natCast]
    rw [show f + (l.length - f) = l.length by omega]
    have l1 : (scanN l (List.replicate l.length 0) f (l.length - f) l.length).length = l.length - f := by simp [scanN]
    have l2 : (scanE l (List.replicate l.length 0) f (l.length - f) l.length).length = l.length - f := by simp [scanE]
    rw [l1, l2, if_pos rfl]
    simp only [cadastrelaw23_KernSteps.j2]
    rw [if_neg (by simp)]
    have := steps_l1 h hs f (by omega) l.length k 0 (by omega) (by omega)
    rw [show ((0 : Nat) : Int) = 0 from rfl, show pre l 0 = 0 from rfl] at this
    exact this
  | succ d ih =>
    intro k i hi hk
    obtain ⟨k, rfl⟩ : ∃ m, k = m + 1 := ⟨k - 1, by omega⟩
    simp only [cadastrelaw23_KernSteps.l0]
    have hw : wrap64 ((i : Int) + 1) = ((i + 1 : Nat) : Int) := by unfold wrap64; omega
    have hr := rd_in32 h i
    have hw2 : wrap64 (rd l i) = rd l i := by unfold wrap64; omega
    rw [if_pos (by omega), if_pos (by omega), if_pos (by simp; omega), hw, hw2]
    have : l.take i ++ [rd l i] = l.take (i + 1) := by rw [rd_nat (by omega), List.take_append_getElem (by omega)]
    rw [this]
    exact ih k (i + 1) (by omega) (by omega)
end Go.Proofs.YtfmlnjciomagiaaDoor.QKern
