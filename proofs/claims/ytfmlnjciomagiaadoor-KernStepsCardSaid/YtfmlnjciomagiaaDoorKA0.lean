/- What the program's columns and sums of lanes come to: plain lists of whole numbers. -/
import Derived.Test.YtfmlnjciomagiaaDoorQKernx4
import Derived.Test.YtfmlnjciomagiaaDoorQKernx9
import Derived.Test.YtfmlnjciomagiaaDoorQKernx10
namespace Go.Proofs.YtfmlnjciomagiaaDoor.QKern
set_option linter.unusedSimpArgs false
open Go.RowKit Go.Proofs.YtfmlnjciomagiaaDoorW.PrintWords Go.Proofs.YtfmlnjciomagiaaDoorW.PrintLast Go.Proofs.YtfmlnjciomagiaaDoorW.PrintMore
/-- The least int64, which no number is. -/
abbrev mn64 : Int := -9223372036854775808
def laneOk (n e : Int) : Bool := if e = 0 then decide (n ≠ mn64) else decide (n = 0) && decide (1 ≤ e) && decide (e ≤ 5)
def lanesOk (N E : List Int) : Int → Nat → Bool
  | _, 0 => true
  | i, d + 1 => laneOk (rd N i) (rd E i) && lanesOk N E (i + 1) d
def colOk (N E : List Int) : Bool := decide (N.length = E.length) && decide (N.length ≤ 1000) && lanesOk N E 0 E.length

theorem fixcan1 (k : Nat) (a : Int) : fix_can.f (k + 2) [a] = some (decide (a ≠ mn64)) := by
  unfold fix_can.f
  simp only [fix_can.l0]
  have hw : wrap64 (0 + 1) = 1 := by unfold wrap64; omega
  have hr : rd [a] 0 = a := rfl
  rw [if_pos (by simp), if_pos (by omega), if_pos (by simp), hr]
  by_cases h : a = -9223372036854775808
  · rw [if_pos h, decide_eq_false (by simpa using h)]
  · rw [if_neg h, hw, if_neg (by simp), decide_eq_true h]
theorem fixcan2 (k : Nat) (hk : 2 ≤ k) (a : Int) : fix_can.f k [a] = some (decide (a ≠ mn64)) := by
  obtain ⟨k, rfl⟩ : ∃ m, k = m + 2 := ⟨k - 2, by omega⟩
  exact fixcan1 k a
theorem fixCan1 (k : Nat) (hk : 2 ≤ k) (a : Int) : fix_Can.f k a = some (decide (a ≠ mn64)) := by
  unfold fix_Can.f; rw [fixcan2 k hk]; rfl
theorem errName_eq (e : Int) : ∃ s, value_ErrName.f e = some s ∧ (s.toList = [] ↔ ¬ (1 ≤ e ∧ e ≤ 5)) := by
  unfold value_ErrName.f value_errName.f
  refine ⟨_, rfl, ?_⟩
  by_cases h : 0 ≤ e ∧ e < 6
  · rw [if_pos h]
    obtain ⟨m, rfl⟩ : ∃ m : Nat, e = m := ⟨e.toNat, by omega⟩
    have hm : m < 6 := by omega
    match m, hm with
    | 0, _ => decide +kernel
    | 1, _ => decide +kernel
    | 2, _ => decide +kernel
    | 3, _ => decide +kernel
    | 4, _ => decide +kernel
    | 5, _ => decide +kernel
  · rw [if_neg h]
    exact ⟨fun _ => by omega, fun _ => by decide +kernel⟩
theorem can_l0 (N E : List Int) (hl : N.length = E.length) (hs : E.length ≤ 1000) : ∀ (d k : Nat) (i : Int), 0 ≤ i → i + d = E.length → d + 3 ≤ k → column_can.l0 k E E.length i N E = some (lanesOk N E i d) := by
  intro d
  induction d with
  | zero =>
    intro k i h0 hi hk
    obtain ⟨k, rfl⟩ : ∃ m, k = m + 1 := ⟨k - 1, by omega⟩
    simp only [column_can.l0]
    rw [if_neg (by omega)]; rfl
  | succ d ih =>
    intro k i h0 hi hk
    obtain ⟨k, rfl⟩ : ∃ m, k = m + 1 := ⟨k - 1, by omega⟩
    have hw : wrap64 (i + 1) = i + 1 := by unfold wrap64; omega
    simp only [column_can.l0]
    rw [if_pos (by omega), if_pos h0, if_pos (by omega), hw, ih k (i + 1) (by omega) (by omega) (by omega)]
    simp only [lanesOk, laneOk]
    by_cases he : rd E i = 0
    · rw [if_pos he, if_pos (by omega), fixCan1 k (by omega), if_pos he]
      simp only [Option.bind_some]
      by_cases hn : rd N i = mn64
      · simp [hn]
      · simp [hn]
    · rw [if_neg he, if_pos (by omega), if_neg he]
      by_cases hn : rd N i = 0
      · rw [if_pos hn]
        obtain ⟨s, h1, h2⟩ := errName_eq (rd E i)
        rw [h1]
        simp only [Option.bind_some]
        by_cases h3 : 1 ≤ rd E i ∧ rd E i ≤ 5
        · rw [if_neg (fun h => (h2.mp h) h3)]
          simp [hn, h3.1, h3.2]
        · rw [if_pos (h2.mpr h3)]
          simp only [Option.some.injEq]
          have : (decide (1 ≤ rd E i) && decide (rd E i ≤ 5)) = false := by
            simp only [Bool.and_eq_false_iff, decide_eq_false_iff_not]; omega
          rw [Bool.and_assoc (decide (rd N i = 0)), this]; simp
      · rw [if_neg hn]; simp [hn]
theorem can_eq (k : Nat) (hk : 1004 ≤ k) (N E : List Int) : column_Can.f k N E = some (colOk N E) := by
  obtain ⟨k, rfl⟩ : ∃ m, k = m + 1 := ⟨k - 1, by omega⟩
  unfold column_Can.f column_can.f colOk
  by_cases hl : (N.length : Int) = (E.length : Int)
  · rw [if_pos hl]
    have hl' : N.length = E.length := by omega
    simp only [column_can.j0]
    by_cases hs : (N.length : Int) > 1000
    · rw [if_pos (decide_eq_true hs)]
      have : ¬ N.length ≤ 1000 := by omega
      simp [this]
    · rw [if_neg (by simp; omega), can_l0 N E hl' (by omega) E.length k 0 (by omega) (by omega) (by omega)]
      have : N.length ≤ 1000 := by omega
      simp [hl', this]
      intro h; omega
  · rw [if_neg hl]
    simp only [column_can.j0]
    have : ¬ N.length = E.length := by omega
    simp [this]
/-! ### The sum that goes on -/
def accHi (S : Int) : Int := S / 18446744073709551616
def accLo (S : Int) : Int := S % 18446744073709551616
theorem plus_eq (S a : Int) (hS : -9300000000000000000000 ≤ S ∧ S ≤ 9300000000000000000000) (ha : -9223372036854775808 ≤ a ∧ a < 9223372036854775808) : fix_Plus.f (accHi S) (accLo S) a = some (accHi (S + a), accLo (S + a)) := by
  unfold fix_Plus.f accHi accLo
  rw [if_pos (by omega)]
  have : wrap64 (S / 18446744073709551616 + (S % 18446744073709551616 + a) / 18446744073709551616) = (S + a) / 18446744073709551616 := by unfold wrap64; omega
  rw [this]
  have : (S % 18446744073709551616 + a) % 18446744073709551616 = (S + a) % 18446744073709551616 := by omega
  rw [this]
/-- A sum, as a number, or the error that was met. -/
def tell (S e : Int) : Int × Int := if e = 0 then (if -9223372036854775808 < S ∧ S < 9223372036854775808 then (S, 0) else (0, 4)) else (0, e)
theorem told_eq (k : Nat) (hk : 2 ≤ k) (S e : Int) : kern_told.f k (accHi S) (accLo S) e = some (tell S e) := by
  unfold kern_told.f tell
  by_cases he : e = 0
  · rw [if_pos he, if_pos he]
    unfold fix_Told.f accHi accLo
    by_cases h : S / 18446744073709551616 = wrap64 (S % 18446744073709551616) / 9223372036854775808
    · have hw : wrap64 (S % 18446744073709551616) = S := by unfold wrap64 at *; omega
      rw [if_pos h, hw, fixcan2 k hk]
      simp only [Option.bind_some]
      have hb : -9223372036854775808 ≤ S ∧ S < 9223372036854775808 := by unfold wrap64 at *; omega
      by_cases h2 : S = mn64
      · have h4 : ¬ (-9223372036854775808 < S ∧ S < 9223372036854775808) := by have : S = -9223372036854775808 := h2; omega
        rw [if_neg h4, decide_eq_false (by simp [h2])]; rfl
      · have h3 : -9223372036854775808 < S ∧ S < 9223372036854775808 := by have : ¬ S = -9223372036854775808 := h2; omega
        rw [if_pos (decide_eq_true h2), if_pos h3]; simp
    · rw [if_neg h]
      simp only [Option.bind_some]
      have h3 : ¬ (-9223372036854775808 < S ∧ S < 9223372036854775808) := by unfold wrap64 at h; omega
      rw [if_neg h3]; rfl
  · rw [if_neg he, if_neg he]
/-! ### Sums that go on -/
/-- The sum of the first t lanes. -/
def pre (N : List Int) : Nat → Int
  | 0 => 0
  | t + 1 => pre N t + rd N t
/-- The first error among the first t lanes; 0: none. -/
def ferr (E : List Int) : Nat → Int
  | 0 => 0
  | t + 1 => if ferr E t = 0 then rd E t else ferr E t
def scanAt (N E : List Int) (t : Nat) : Int × Int := tell (pre N (t + 1)) (ferr E (t + 1))
/-- What stands in the lanes when the first t lanes have been gone through. -/
def scanN (N E : List Int) (first lanes t : Nat) : List Int := (List.range lanes).map fun i => if first + i < t then (scanAt N E (first + i)).1 else 0
def scanE (N E : List Int) (first lanes t : Nat) : List Int := (List.range lanes).map fun i => if first + i < t then (scanAt N E (first + i)).2 else 0
theorem scan_set (g : Nat → Int) (first lanes t : Nat) (h : first ≤ t) : ((List.range lanes).map fun i => if first + i < t then g (first + i) else 0).set (t - first) (g t) = (List.range lanes).map fun i => if first + i < t + 1 then g (first + i) else 0 := by
  apply List.ext_getElem
  · simp
  · intro i h1 h3
    simp only [List.length_set, List.length_map, List.length_range] at h1
    rw [List.getElem_set]
    simp only [List.getElem_map, List.getElem_range]
    by_cases hi : t - first = i
    · rw [if_pos hi, if_pos (by omega)]; congr 1; omega
    · rw [if_neg hi]
      by_cases hl : first + i < t
      · rw [if_pos hl, if_pos (by omega)]
      · rw [if_neg hl, if_neg (by omega)]
theorem scan_pass (g : Nat → Int) (first lanes t : Nat) (h : t < first) : ((List.range lanes).map fun i => if first + i < t then g (first + i) else 0) = (List.range lanes).map fun i => if first + i < t + 1 then g (first + i) else 0 := by
  apply List.map_congr_left
  intro i _
  rw [if_neg (by omega), if_neg (by omega)]
theorem tell_put (S e : Int) : (if (tell S e).2 = 0 then (tell S e).1 else 0) = (tell S e).1 := by
  unfold tell
  by_cases he : e = 0
  · rw [if_pos he]; split <;> simp
  · rw [if_neg he]; simp
/-- All numbers are int64. -/
def In64 (N : List Int) : Prop := ∀ x ∈ N, -9223372036854775808 ≤ x ∧ x < 9223372036854775808
theorem rd_in {N : List Int} (h : In64 N) (i : Int) : -9223372036854775808 ≤ rd N i ∧ rd N i < 9223372036854775808 := by
  unfold rd
  by_cases hi : i.toNat < N.length
  · rw [List.getD_eq_getElem?_getD, List.getElem?_eq_getElem hi]; exact h _ (List.getElem_mem hi)
  · rw [List.getD_eq_getElem?_getD, List.getElem?_eq_none (by omega)]; simp
theorem pre_in {N : List Int} (h : In64 N) : ∀ t : Nat, -(9223372036854775808 * t) ≤ pre N t ∧ pre N t ≤ 9223372036854775808 * t := by
  intro t
  induction t with
  | zero => simp [pre]
  | succ t ih => have := rd_in h t; simp only [pre]; omega
theorem scan_l0 (N E : List Int) (h64 : In64 N) (hl : N.length = E.length) (hs : N.length ≤ 1000) (first lanes : Nat) (hfl : first + lanes ≤ N.length) : ∀ (d k t : Nat), t + d = first + lanes → 2 * d + 3 ≤ k →
    kern_Scan.l0 k first (ferr E t) ((first + lanes : Nat) : Int) t N E (scanN N E first lanes t) (scanE N E first lanes t) (accHi (pre N t)) (accLo (pre N t)) = some (scanN N E first lanes (first + lanes), scanE N E first lanes (first + lanes), 0) := by
  intro d
  induction d with
  | zero =>
    intro k t ht hk
    obtain ⟨k, rfl⟩ : ∃ m, k = m + 1 := ⟨k - 1, by omega⟩
    simp only [kern_Scan.l0]
    obtain rfl : t = first + lanes := by omega
    rw [if_neg (by omega)]
  | succ d ih =>
    intro k t ht hk
    obtain ⟨k, rfl⟩ : ∃ m, k = m + 1 + 1 := ⟨k - 2, by omega⟩
    have hp := pre_in h64 t
    simp only [kern_Scan.l0]
    rw [if_pos (by omega), if_pos (by omega), if_pos (by omega), plus_eq _ _ (by omega) (rd_in h64 _)]
    simp only [Option.bind_some]
    have key : kern_Scan.j2 (k + 1) first (ferr E (t + 1)) t ((first + lanes : Nat) : Int) t N E (scanN N E first lanes t) (scanE N E first lanes t) (accHi (pre N t + rd N t)) (accLo (pre N t + rd N t)) = some (scanN N E first lanes (first + lanes), scanE N E first lanes (first + lanes), 0) := by
      simp only [kern_Scan.j2]
      have hw : wrap64 ((t : Int) + 1) = ((t + 1 : Nat) : Int) := by unfold wrap64; omega
      rw [hw]
      by_cases hf : (t : Int) ≥ first
      · rw [if_pos hf, told_eq k (by omega)]
        simp only [Option.bind_some]
        have hw2 : wrap64 ((t : Int) - first) = ((t - first : Nat) : Int) := by unfold wrap64; omega
        rw [hw2]
        have hlen : (scanN N E first lanes t).length = lanes := by simp [scanN]
        have hlen2 : (scanE N E first lanes t).length = lanes := by simp [scanE]
        unfold kern_put.f
        rw [if_pos (by omega)]
        simp only [Option.bind_some]
        rw [tell_put, Int.toNat_natCast]
        have e1 : (scanN N E first lanes t).set (t - first) (tell (pre N t + rd N t) (ferr E (t + 1))).1 = scanN N E first lanes (t + 1) := scan_set (fun j => (scanAt N E j).1) first lanes t (by omega)
        have e2 : (scanE N E first lanes t).set (t - first) (tell (pre N t + rd N t) (ferr E (t + 1))).2 = scanE N E first lanes (t + 1) := scan_set (fun j => (scanAt N E j).2) first lanes t (by omega)
        rw [e1, e2]
        exact ih k (t + 1) (by omega) (by omega)
      · rw [if_neg hf]
        have e1 : scanN N E first lanes t = scanN N E first lanes (t + 1) := scan_pass (fun j => (scanAt N E j).1) first lanes t (by omega)
        have e2 : scanE N E first lanes t = scanE N E first lanes (t + 1) := scan_pass (fun j => (scanAt N E j).2) first lanes t (by omega)
        rw [e1, e2]
        exact ih k (t + 1) (by omega) (by omega)
    by_cases he : ferr E t = 0
    · rw [if_pos he, if_pos (by omega)]
      have : ferr E (t + 1) = rd E t := by simp [ferr, he]
      rw [this] at key; exact key
    · rw [if_neg he]
      have : ferr E (t + 1) = ferr E t := by simp [ferr, he]
      rw [this] at key; exact key
theorem zeros_eq (n : Nat) (g : Nat → Int) (h : ∀ i, g i = 0) : (List.range n).map g = List.replicate n 0 := by
  apply List.ext_getElem
  · simp
  · intro i h1 h2
    simp [h]
def scanOk (N E : List Int) (first lanes : Int) : Bool := colOk N E && decide (0 ≤ first) && decide (1 ≤ lanes) && decide (first + lanes ≤ N.length)
theorem colOk_len {N E : List Int} (h : colOk N E = true) : N.length = E.length ∧ N.length ≤ 1000 := by
  unfold colOk at h
  simp only [Bool.and_eq_true, decide_eq_true_eq] at h
  exact h.1
theorem scan_eq (k : Nat) (hk : 2005 ≤ k) (N E : List Int) (h64 : In64 N) (first lanes : Int) (hb1 : first < 9223372036854775808) (hb2 : lanes < 9223372036854775808) (hN : N.length ≤ 4611686018427387904) : kern_Scan.f k N E first lanes =
    some (if scanOk N E first lanes = true then (scanN N E first.toNat lanes.toNat (first.toNat + lanes.toNat), scanE N E first.toNat lanes.toNat (first.toNat + lanes.toNat), 0) else ([], [], 1)) := by
  unfold kern_Scan.f
  obtain ⟨k, rfl⟩ : ∃ m, k = m + 1 := ⟨k - 1, by omega⟩
  rw [can_eq _ (by omega)]
  simp only [Option.bind_some]
  have hno : kern_Scan.j0 (k + 1) first lanes true N E = some ([], [], 1) := by
    simp only [kern_Scan.j0, if_true]
  unfold scanOk
  by_cases hc : colOk N E = true
  · rw [if_pos hc]
    obtain ⟨hl, hs⟩ := colOk_len hc
    by_cases h1 : first < 0
    · rw [if_pos h1, hno]; have : ¬ 0 ≤ first := by omega
      simp [this]
    · rw [if_neg h1]
      by_cases h2 : lanes < 1
      · rw [if_pos h2, hno]; have : ¬ 1 ≤ lanes := by omega
        simp [this]
      · rw [if_neg h2]
        by_cases h3 : first > (N.length : Int)
        · rw [if_pos h3, hno]; have : ¬ first + lanes ≤ N.length := by omega
          simp [this]
        · rw [if_neg h3]
          have hw : wrap64 ((N.length : Int) - first) = N.length - first := by unfold wrap64; omega
          rw [hw]
          by_cases h4 : lanes > (N.length : Int) - first
          · rw [decide_eq_true h4, hno]; have : ¬ first + lanes ≤ N.length := by omega
            simp [this]
          · rw [decide_eq_false h4]
            obtain ⟨f, rfl⟩ : ∃ m : Nat, first = m := ⟨first.toNat, by omega⟩
            obtain ⟨n, rfl⟩ : ∃ m : Nat, lanes = m := ⟨lanes.toNat, by omega⟩
            simp only [kern_Scan.j0]
            rw [if_neg (by simp)]
            unfold kern_empty.f
            rw [if_pos (by omega), if_pos (by omega)]
            simp only [Option.bind_some, Int.toNat_natCast]
            have hw2 : wrap64 ((f : Int) + n) = ((f + n : Nat) : Int) := by unfold wrap64; omega
            rw [hw2]
            have z1 : List.replicate n 0 = scanN N E f n 0 := by
              unfold scanN; exact (zeros_eq n _ (fun i => if_neg (by omega))).symm
            have z2 : List.replicate n 0 = scanE N E f n 0 := by
              unfold scanE; exact (zeros_eq n _ (fun i => if_neg (by omega))).symm
            have := scan_l0 N E h64 hl hs f n (by omega) (f + n) k 0 (by omega) (by omega)
            rw [← z1, ← z2] at this
            rw [show ((0 : Nat) : Int) = 0 from rfl] at this
            rw [show ferr E 0 = 0 from rfl, show pre N 0 = 0 from rfl] at this
            rw [show accHi 0 = 0 from rfl, show accLo 0 = 0 from rfl] at this
            rw [this, if_pos]
            simp only [hc, Bool.true_and, Bool.and_eq_true, decide_eq_true_eq]; omega
  · rw [if_neg hc, hno]
    have : colOk N E = false := by simpa using hc
    simp [this]
end Go.Proofs.YtfmlnjciomagiaaDoor.QKern
