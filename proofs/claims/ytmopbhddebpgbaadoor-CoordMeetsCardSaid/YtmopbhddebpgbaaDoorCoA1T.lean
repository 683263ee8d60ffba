/- Plain facts on places as texts, as the program reads and writes them. -/
import Derived.Test.YtmopbhddebpgbaaDoorQCoordTx12
import Derived.Test.YtmopbhddebpgbaaDoorQCoordTx8
import Derived.Test.YtmopbhddebpgbaaDoorQCoordTx10
namespace Go.Proofs.YtmopbhddebpgbaaDoor.QCoordT
set_option linter.unusedSimpArgs false
open Go.RowKit Go.Proofs.YtmopbhddebpgbaaDoorW.PrintWords Go.Proofs.YtmopbhddebpgbaaDoorW.PrintLast Go.Proofs.YtmopbhddebpgbaaDoorW.PrintMore
/-! ### Texts as lists of numbers -/
theorem bytesOf_inj {s t : ByteArray} (h : bytesOf s = bytesOf t) : s = t := by
  rcases s with ⟨⟨l⟩⟩; rcases t with ⟨⟨m⟩⟩
  simp only [bytesOf] at h
  have : l = m := by
    induction l generalizing m with
    | nil => cases m with
      | nil => rfl
      | cons y m => simp at h
    | cons x l ih => cases m with
      | nil => simp at h
      | cons y m =>
        simp only [List.map_cons, List.cons.injEq] at h
        rw [ih m h.2, UInt8.toNat_inj.1 (by omega : x.toNat = y.toNat)]
  rw [this]
theorem bytesOf_toList {s t : ByteArray} : s.toList = t.toList ↔ bytesOf s = bytesOf t := by
  rw [ByteArray.toList_eq, ByteArray.toList_eq]
  refine ⟨fun h => by unfold bytesOf; rw [h], fun h => by rw [bytesOf_inj h]⟩
theorem bytesOf_append (s t : ByteArray) : bytesOf (s ++ t) = bytesOf s ++ bytesOf t := by simp [bytesOf]
theorem bytesOf_extract (s : ByteArray) (i j : Nat) : bytesOf (s.extract i j) = ((bytesOf s).drop i).take (j - i) := by
  simp [bytesOf, List.map_drop, List.map_take]
theorem bytesOf_range (s : ByteArray) : ∀ x ∈ bytesOf s, 0 ≤ x ∧ x ≤ 255 := by
  intro x hx
  simp only [bytesOf, List.mem_map] at hx
  obtain ⟨b, _, rfl⟩ := hx
  have := b.toNat_lt
  omega
theorem bytesOf_nums (l : List Int) (h : ∀ x ∈ l, 0 ≤ x ∧ x ≤ 255) : bytesOf (strOfNums l) = l := by
  unfold bytesOf strOfNums
  rw [List.map_map]
  conv => rhs; rw [← List.map_id l]
  refine List.map_congr_left fun x hx => ?_
  have := h x hx
  simp only [Function.comp, UInt8.toNat_ofNat', id]
  omega
theorem bt_drop (s : ByteArray) (i : Nat) (h : i < s.size) : (bytesOf s).drop i = bt s i :: (bytesOf s).drop (i + 1) := by
  have h' : i < (bytesOf s).length := by rw [bytesOf_length]; exact h
  rw [List.drop_eq_getElem_cons h', ← rd_bytesOf]
  simp [rd, List.getD_eq_getElem?_getD, List.getElem?_eq_getElem h']

/-! ### What is there -/
def In (a b : Int) : Prop := 1 ≤ a ∧ a ≤ 1000 ∧ 1 ≤ b ∧ b ≤ 52
instance decIn (a b : Int) : Decidable (In a b) := by unfold In; infer_instance
theorem in_eq (a b : Int) : coord_in.f a b = some (decide (In a b)) := by
  unfold coord_in.f In
  split
  · split
    · split
      · exact congrArg some (decide_eq_decide.mpr (by omega))
      · exact congrArg some (decide_eq_false (by omega)).symm
    · exact congrArg some (decide_eq_false (by omega)).symm
  · exact congrArg some (decide_eq_false (by omega)).symm
/-! ### A sign ahead -/
theorem cut_eq (s : ByteArray) : ∃ s1 b, strings_CutPrefix.f s ⟨#[36]⟩ = some (s1, b) ∧ s1.size ≤ s.size ∧ ((b = true ∧ bytesOf s = 36 :: bytesOf s1) ∨ (b = false ∧ s1 = s ∧ ∀ R, bytesOf s ≠ 36 :: R)) := by
  unfold strings_CutPrefix.f stringslite_CutPrefix.f stringslite_HasPrefix.f
  have h1 : (⟨#[36]⟩ : ByteArray).size = 1 := rfl
  rw [h1]
  by_cases h0 : 0 < s.size
  · rw [if_pos (by omega), if_pos (by omega), if_pos (by omega)]
    have hd : bytesOf s = bt s 0 :: (bytesOf s).drop 1 := by simpa using bt_drop s 0 h0
    have hx : bytesOf (s.extract 0 1) = [bt s 0] := by
      rw [bytesOf_extract, List.drop_zero, hd]; rfl
    have hy : bytesOf (⟨#[36]⟩ : ByteArray) = [36] := rfl
    by_cases hb : bt s 0 = 36
    · have he : ((s.extract 0 ((1 : Nat) : Int).toNat).toList == (⟨#[36]⟩ : ByteArray).toList) = true := by
        rw [beq_iff_eq, bytesOf_toList]
        exact hx.trans (by rw [hb, hy])
      refine ⟨s.extract 1 s.size, true, ?_, ?_, .inl ⟨rfl, ?_⟩⟩
      · rw [he]
        simp only [Option.bind_some, if_true]
        rw [if_pos (by omega), if_pos (by omega)]
        rfl
      · rw [ByteArray.size_extract]; omega
      · have h3 : bytesOf (s.extract 1 s.size) = (bytesOf s).drop 1 := by
          rw [bytesOf_extract, List.take_of_length_le (by rw [List.length_drop, bytesOf_length]; omega)]
        rw [h3, ← hb]; exact hd
    · have he : ((s.extract 0 ((1 : Nat) : Int).toNat).toList == (⟨#[36]⟩ : ByteArray).toList) = false := by
        rw [beq_eq_false_iff_ne, Ne, bytesOf_toList]
        intro h
        have h2 : [bt s 0] = [36] := hx.symm.trans (h.trans hy)
        simp at h2
        exact hb h2
      refine ⟨s, false, ?_, Nat.le_refl _, .inr ⟨rfl, rfl, fun R h => ?_⟩⟩
      · rw [he]; simp
      · rw [hd] at h; simp at h; exact hb h.1
  · rw [if_neg (by omega)]
    refine ⟨s, false, rfl, Nat.le_refl _, .inr ⟨rfl, rfl, fun R h => ?_⟩⟩
    have := congrArg List.length h
    rw [bytesOf_length] at this
    simp at this
    omega

/-! ### Columns -/
/-- A column's name. -/
def nm (c : Int) : List Int := if 1 ≤ c ∧ c ≤ 26 then [64 + c] else if 27 ≤ c ∧ c ≤ 52 then [65, 38 + c] else []
theorem nm_one {c : Int} (h : 1 ≤ c ∧ c ≤ 26) : nm c = [64 + c] := by unfold nm; rw [if_pos h]
theorem nm_two {c : Int} (h : 27 ≤ c ∧ c ≤ 52) : nm c = [65, 38 + c] := by unfold nm; rw [if_neg (by omega), if_pos h]
theorem nm_none {c : Int} (h : c < 1 ∨ 52 < c) : nm c = [] := by unfold nm; rw [if_neg (by omega), if_neg (by omega)]
theorem nm_cases {c : Int} (h : 1 ≤ c ∧ c ≤ 52) : (c ≤ 26 ∧ nm c = [64 + c]) ∨ (27 ≤ c ∧ nm c = [65, 38 + c]) := by
  by_cases h2 : c ≤ 26
  · exact .inl ⟨h2, nm_one ⟨h.1, h2⟩⟩
  · exact .inr ⟨by omega, nm_two ⟨by omega, h.2⟩⟩
theorem nm_inj {c d : Int} (h1 : 1 ≤ c ∧ c ≤ 52) (h2 : 1 ≤ d ∧ d ≤ 52) (h : nm c = nm d) : c = d := by
  rcases nm_cases h1 with ⟨_, e1⟩ | ⟨_, e1⟩ <;> rcases nm_cases h2 with ⟨_, e2⟩ | ⟨_, e2⟩ <;> rw [e1, e2] at h <;> simp at h <;> omega
theorem nm_size {c : Int} : (nm c).length ≤ 2 := by unfold nm; split; simp; split <;> simp

theorem colName_eq (k : Nat) (c : Int) : ∃ s, coord_colName.f (k + 1) c = some s ∧ bytesOf s = nm c := by
  unfold coord_colName.f
  by_cases h1 : c < 1
  · rw [if_pos h1]
    exact ⟨_, rfl, by rw [nm_none (.inl h1)]; rfl⟩
  · rw [if_neg h1]
    by_cases h2 : c > 52
    · rw [decide_eq_true h2]
      exact ⟨_, rfl, by rw [nm_none (.inr h2)]; rfl⟩
    · rw [decide_eq_false h2]
      simp only [coord_colName.j0]
      rw [if_neg (by simp)]
      have hw : wrap64 (c - 1) = c - 1 := by unfold wrap64; omega
      rw [hw]
      by_cases h3 : c ≤ 26
      · rw [if_pos h3]
        refine ⟨_, rfl, ?_⟩
        rw [bytesOf_nums _ (by intro x hx; simp at hx; omega), nm_one ⟨by omega, h3⟩]
        congr 1
        omega
      · rw [if_neg h3]
        refine ⟨_, rfl, ?_⟩
        have h4 : Int.tdiv (c - 1) 26 = 1 := by rw [Int.tdiv_eq_ediv_of_nonneg (by omega)]; omega
        have h5 : Int.tmod (c - 1) 26 = c - 27 := by rw [Int.tmod_eq_emod_of_nonneg (by omega)]; omega
        rw [h4, h5, bytesOf_nums _ (by intro x hx; simp at hx; omega), nm_two ⟨by omega, by omega⟩]
        simp only [List.cons.injEq, and_true]
        refine ⟨by unfold wrap64; omega, by omega⟩
theorem num_nm {c : Int} (h : 1 ≤ c ∧ c ≤ 52) : coord_colNumber.num (nm c) = c := by
  rcases nm_cases h with ⟨h2, e⟩ | ⟨h2, e⟩ <;> rw [e]
  · rw [coord_colNumber.num_some (n := c) (by rw [coord_colNumber.go_good (by omega)]; simp only [coord_colNumber.go, Option.some.injEq]; omega), if_neg (by omega)]
  · rw [coord_colNumber.num_some (n := c) (by rw [coord_colNumber.go_good (by omega), coord_colNumber.go_good (by omega)]; simp only [coord_colNumber.go, Option.some.injEq]; omega), if_neg (by omega)]
theorem num_inv (l : List Int) : coord_colNumber.num l = 0 ∨ ∃ c, 1 ≤ c ∧ c ≤ 52 ∧ l = nm c := by
  match l with
  | [] => exact .inl rfl
  | [x] =>
    by_cases hx : x < 65 ∨ x > 90 ∨ (0 : Int) > 52
    · exact .inl (coord_colNumber.num_none (coord_colNumber.go_bad hx))
    · exact .inr ⟨x - 64, by omega, by omega, by rw [nm_one (by omega)]; congr 1; omega⟩
  | [x, y] =>
    by_cases hx : x < 65 ∨ x > 90 ∨ (0 : Int) > 52
    · exact .inl (coord_colNumber.num_none (coord_colNumber.go_bad hx))
    · by_cases hy : y < 65 ∨ y > 90 ∨ 26 * 0 + (x - 65) + 1 > 52
      · exact .inl (coord_colNumber.num_none (by rw [coord_colNumber.go_good hx, coord_colNumber.go_bad hy]))
      · have e := coord_colNumber.num_some (l := [x, y]) (by rw [coord_colNumber.go_good hx, coord_colNumber.go_good hy]; rfl)
        by_cases h3 : 26 * (26 * 0 + (x - 65) + 1) + (y - 65) + 1 > 52
        · rw [if_pos h3] at e; exact .inl e
        · exact .inr ⟨26 + (y - 64), by omega, by omega, by rw [nm_two (by omega)]; simp only [List.cons.injEq, and_true]; omega⟩
  | x :: y :: z :: r =>
    left
    by_cases hx : x < 65 ∨ x > 90 ∨ (0 : Int) > 52
    · exact coord_colNumber.num_none (coord_colNumber.go_bad hx)
    · by_cases hy : y < 65 ∨ y > 90 ∨ 26 * 0 + (x - 65) + 1 > 52
      · exact coord_colNumber.num_none (by rw [coord_colNumber.go_good hx, coord_colNumber.go_bad hy])
      · by_cases hz : z < 65 ∨ z > 90 ∨ 26 * (26 * 0 + (x - 65) + 1) + (y - 65) + 1 > 52
        · exact coord_colNumber.num_none (by rw [coord_colNumber.go_good hx, coord_colNumber.go_good hy, coord_colNumber.go_bad hz])
        · have e0 : coord_colNumber.go (x :: y :: z :: r) 0 = coord_colNumber.go r (26 * (26 * (26 * 0 + (x - 65) + 1) + (y - 65) + 1) + (z - 65) + 1) := by rw [coord_colNumber.go_good hx, coord_colNumber.go_good hy, coord_colNumber.go_good hz]
          cases r with
          | nil => rw [coord_colNumber.num_some e0, if_pos (by omega)]
          | cons u r => exact coord_colNumber.num_none (by rw [e0]; exact coord_colNumber.go_bad (by omega))
theorem num_cases (l : List Int) : (coord_colNumber.num l = 0 ∧ ∀ c, 1 ≤ c → c ≤ 52 → l ≠ nm c) ∨ (1 ≤ coord_colNumber.num l ∧ coord_colNumber.num l ≤ 52 ∧ l = nm (coord_colNumber.num l)) := by
  rcases num_inv l with h | ⟨c, h1, h2, rfl⟩
  · refine .inl ⟨h, fun c h1 h2 e => ?_⟩
    rw [e, num_nm ⟨h1, h2⟩] at h
    omega
  · exact .inr (by rw [num_nm ⟨h1, h2⟩]; exact ⟨h1, h2, rfl⟩)

/-! ### Rows -/
/-- The digits of a row's number. -/
def dec (r : Int) : List Int := if r < 10 then [48 + r] else if r < 100 then [48 + r / 10, 48 + r % 10] else if r < 1000 then [48 + r / 100, 48 + r / 10 % 10, 48 + r % 10] else [48 + r / 1000, 48 + r / 100 % 10, 48 + r / 10 % 10, 48 + r % 10]
theorem dec1 {r : Int} (h : r < 10) : dec r = [48 + r] := by unfold dec; rw [if_pos h]
theorem dec2 {r : Int} (h : 10 ≤ r) (h2 : r < 100) : dec r = [48 + r / 10, 48 + r % 10] := by unfold dec; rw [if_neg (by omega), if_pos h2]
theorem dec3 {r : Int} (h : 100 ≤ r) (h2 : r < 1000) : dec r = [48 + r / 100, 48 + r / 10 % 10, 48 + r % 10] := by unfold dec; rw [if_neg (by omega), if_neg (by omega), if_pos h2]
theorem dec4 {r : Int} (h : 1000 ≤ r) : dec r = [48 + r / 1000, 48 + r / 100 % 10, 48 + r / 10 % 10, 48 + r % 10] := by unfold dec; rw [if_neg (by omega), if_neg (by omega), if_neg (by omega)]
theorem dec_cases {r : Int} (h1 : 1 ≤ r) (h2 : r ≤ 1000) : (r < 10 ∧ dec r = [48 + r]) ∨ (10 ≤ r ∧ r < 100 ∧ dec r = [48 + r / 10, 48 + r % 10]) ∨ (100 ≤ r ∧ r < 1000 ∧ dec r = [48 + r / 100, 48 + r / 10 % 10, 48 + r % 10]) ∨ (r = 1000 ∧ dec r = [49, 48, 48, 48]) := by
  by_cases a : r < 10
  · exact .inl ⟨a, dec1 a⟩
  · by_cases b : r < 100
    · exact .inr (.inl ⟨by omega, b, dec2 (by omega) b⟩)
    · by_cases c : r < 1000
      · exact .inr (.inr (.inl ⟨by omega, c, dec3 (by omega) c⟩))
      · have : r = 1000 := by omega
        subst this
        exact .inr (.inr (.inr ⟨rfl, by rw [dec4 (by omega)]; rfl⟩))
theorem row_dec {r : Int} (h1 : 1 ≤ r) (h2 : r ≤ 1000) : coord_rowNumber.num (dec r) = r := by
  rcases dec_cases h1 h2 with ⟨h, e⟩ | ⟨h, h', e⟩ | ⟨h, h', e⟩ | ⟨h, e⟩ <;> rw [e]
  · refine coord_rowNumber.num_some (by simp; omega) ?_
    rw [coord_rowNumber.go_good (by omega)]; simp only [coord_rowNumber.go, Option.some.injEq]; omega
  · refine coord_rowNumber.num_some (by simp; omega) ?_
    rw [coord_rowNumber.go_good (by omega), coord_rowNumber.go_good (by omega)]; simp only [coord_rowNumber.go, Option.some.injEq]; omega
  · refine coord_rowNumber.num_some (by simp; omega) ?_
    rw [coord_rowNumber.go_good (by omega), coord_rowNumber.go_good (by omega), coord_rowNumber.go_good (by omega)]; simp only [coord_rowNumber.go, Option.some.injEq]; omega
  · refine coord_rowNumber.num_some (by simp) ?_
    rw [coord_rowNumber.go_good (by omega), coord_rowNumber.go_good (by omega), coord_rowNumber.go_good (by omega), coord_rowNumber.go_good (by omega)]; simp only [coord_rowNumber.go, Option.some.injEq]; omega
/-- What is a row's number is that number's digits. -/
theorem row_inv {l : List Int} (h1 : 1 ≤ coord_rowNumber.num l) (h2 : coord_rowNumber.num l ≤ 1000) : l = dec (coord_rowNumber.num l) := by
  generalize hr : coord_rowNumber.num l = r at h1 h2 ⊢
  by_cases h0 : l.getD 0 48 = 48
  · rw [coord_rowNumber.num_zero h0] at hr; omega
  · match l, h0 with
    | [], h0 => simp at h0
    | a :: l, h0 =>
      have ha0 : a ≠ 48 := by simpa using h0
      by_cases ha : a < 48 ∨ a > 57 ∨ (0 : Int) > 1000
      · rw [coord_rowNumber.num_none h0 (coord_rowNumber.go_bad ha)] at hr; omega
      · have ea := coord_rowNumber.go_good (l := l) ha
        match l with
        | [] =>
          rw [coord_rowNumber.num_some h0 ea] at hr
          rw [dec1 (by omega)]; congr 1; omega
        | b :: l =>
          by_cases hb : b < 48 ∨ b > 57 ∨ 10 * 0 + (a - 48) > 1000
          · rw [coord_rowNumber.num_none h0 (by rw [ea]; exact coord_rowNumber.go_bad hb)] at hr; omega
          · have eb := ea.trans (coord_rowNumber.go_good (l := l) hb)
            match l with
            | [] =>
              rw [coord_rowNumber.num_some h0 eb] at hr
              rw [dec2 (by omega) (by omega)]; simp only [List.cons.injEq, and_true]; omega
            | c :: l =>
              by_cases hc : c < 48 ∨ c > 57 ∨ 10 * (10 * 0 + (a - 48)) + (b - 48) > 1000
              · rw [coord_rowNumber.num_none h0 (by rw [eb]; exact coord_rowNumber.go_bad hc)] at hr; omega
              · have ec := eb.trans (coord_rowNumber.go_good (l := l) hc)
                match l with
                | [] =>
                  rw [coord_rowNumber.num_some h0 ec] at hr
                  rw [dec3 (by omega) (by omega)]; simp only [List.cons.injEq, and_true]; omega
                | d :: l =>
                  by_cases hd : d < 48 ∨ d > 57 ∨ 10 * (10 * (10 * 0 + (a - 48)) + (b - 48)) + (c - 48) > 1000
                  · rw [coord_rowNumber.num_none h0 (by rw [ec]; exact coord_rowNumber.go_bad hd)] at hr; omega
                  · have ed := ec.trans (coord_rowNumber.go_good (l := l) hd)
                    match l with
                    | [] =>
                      rw [coord_rowNumber.num_some h0 ed] at hr
                      rw [dec4 (by omega)]; simp only [List.cons.injEq, and_true]; omega
                    | e :: l =>
                      exfalso
                      by_cases he : e < 48 ∨ e > 57 ∨ 10 * (10 * (10 * (10 * 0 + (a - 48)) + (b - 48)) + (c - 48)) + (d - 48) > 1000
                      · rw [coord_rowNumber.num_none h0 (by rw [ed]; exact coord_rowNumber.go_bad he)] at hr; omega
                      · have ee := ed.trans (coord_rowNumber.go_good (l := l) he)
                        match l with
                        | [] => rw [coord_rowNumber.num_some h0 ee] at hr; omega
                        | f :: l => rw [coord_rowNumber.num_none h0 (by rw [ee]; exact coord_rowNumber.go_bad (by omega))] at hr; omega
/-- How strconv writes a row. -/
theorem decD1 {i : Nat} (h : i < 10) : Lib.decDigits i = [UInt8.ofNat (48 + i)] := by rw [Lib.decDigits, dif_pos h]
theorem decDs {i : Nat} (h : ¬ i < 10) : Lib.decDigits i = Lib.decDigits (i / 10) ++ [UInt8.ofNat (48 + i % 10)] := by rw [Lib.decDigits, dif_neg h]
theorem u8_nat (n : Nat) (h : n < 256) : ((UInt8.ofNat n).toNat : Int) = n := by simp; omega
theorem digits_eq {r : Int} (h1 : 1 ≤ r) (h2 : r ≤ 1000) : ∃ s, num_Digits.f r = some s ∧ bytesOf s = dec r := by
  unfold num_Digits.f
  rw [if_pos (by omega)]
  refine ⟨_, rfl, ?_⟩
  have e : Lib.itoa r = Lib.decDigits r.toNat := by unfold Lib.itoa; rw [if_neg (by omega)]
  rw [e]
  obtain ⟨n, rfl⟩ : ∃ n : Nat, r = n := ⟨r.toNat, by omega⟩
  rw [Int.toNat_natCast]
  show (Lib.decDigits n).map (fun b => (b.toNat : Int)) = _
  by_cases a : n < 10
  · rw [dec1 (by omega), decD1 a, List.map_cons, List.map_nil, u8_nat _ (by omega)]; congr 1
  · by_cases b : n < 100
    · rw [dec2 (by omega) (by omega), decDs a, decD1 (by omega)]
      simp only [List.map_cons, List.map_nil, List.cons_append, List.nil_append]
      rw [u8_nat _ (by omega), u8_nat _ (by omega)]
      simp only [List.cons.injEq, and_true]; omega
    · by_cases c : n < 1000
      · rw [dec3 (by omega) (by omega), decDs a, decDs (by omega), decD1 (by omega)]
        simp only [List.map_cons, List.map_nil, List.cons_append, List.nil_append]
        rw [u8_nat _ (by omega), u8_nat _ (by omega), u8_nat _ (by omega)]
        simp only [List.cons.injEq, and_true]; omega
      · rw [dec4 (by omega), decDs a, decDs (by omega), decDs (by omega), decD1 (by omega)]
        simp only [List.map_cons, List.map_nil, List.cons_append, List.nil_append]
        rw [u8_nat _ (by omega), u8_nat _ (by omega), u8_nat _ (by omega), u8_nat _ (by omega)]
        simp only [List.cons.injEq, and_true]; omega
/-! ### Reading, as the program does -/
def dol (b : Bool) : List Int := if b = true then [36] else []
abbrev bad : Int × Int × Bool × Bool × Bool := (0, 0, false, false, false)
abbrev upTo := strings_IndexFunc__coord_Parse_1.upTo
theorem upTo_le (l : List Int) : upTo l ≤ l.length := strings_IndexFunc__coord_Parse_1.upTo_le l
theorem upTo_app : ∀ (l m : List Int), (∀ x ∈ l, 65 ≤ x ∧ x ≤ 90) → (∀ x r, m = x :: r → ¬ (65 ≤ x ∧ x ≤ 90)) → upTo (l ++ m) = l.length
  | [], [], _, _ => rfl
  | [], x :: r, _, h => strings_IndexFunc__coord_Parse_1.upTo_no (h x r rfl)
  | x :: l, m, h, h2 => by
    rw [List.cons_append]
    rw [show upTo (x :: (l ++ m)) = upTo (l ++ m) + 1 from strings_IndexFunc__coord_Parse_1.upTo_yes (h x (by simp)), upTo_app l m (fun y hy => h y (by simp [hy])) h2]
    rfl
theorem nm_letters {c : Int} : ∀ x ∈ nm c, 65 ≤ x ∧ x ≤ 90 := by
  intro x hx
  unfold nm at hx
  split at hx
  · simp at hx; omega
  · split at hx
    · simp at hx; omega
    · simp at hx
theorem nm_pos {c : Int} (h : 1 ≤ c ∧ c ≤ 52) : 1 ≤ (nm c).length := by rcases nm_cases h with ⟨_, e⟩ | ⟨_, e⟩ <;> rw [e] <;> simp
theorem dec_first {r : Int} (h1 : 1 ≤ r) (h2 : r ≤ 1000) : ∃ x l, dec r = x :: l ∧ 49 ≤ x ∧ x ≤ 57 := by
  rcases dec_cases h1 h2 with ⟨h, e⟩ | ⟨h, h', e⟩ | ⟨h, h', e⟩ | ⟨h, e⟩ <;> rw [e] <;> exact ⟨_, _, rfl, by omega, by omega⟩
theorem cut_dol {s : ByteArray} {b : Bool} {m : List Int} (h : bytesOf s = dol b ++ m) (hm : ∀ r, m ≠ 36 :: r) : ∃ s1, strings_CutPrefix.f s ⟨#[36]⟩ = some (s1, b) ∧ bytesOf s1 = m ∧ s1.size ≤ s.size := by
  obtain ⟨s1, b1, e, hs, ⟨rfl, h1⟩ | ⟨rfl, rfl, h1⟩⟩ := cut_eq s
  · cases b
    · exact absurd (h.symm.trans h1) (hm _)
    · refine ⟨s1, e, ?_, hs⟩
      rw [h1] at h
      simpa [dol] using h
  · cases b
    · exact ⟨s1, e, h, hs⟩
    · exact absurd h (h1 _)
theorem parse_good {s : ByteArray} (hs : s.size ≤ 140737488351232) {r c : Int} {ar ac : Bool} (hin : In r c) (h : bytesOf s = dol ac ++ (nm c ++ (dol ar ++ dec r))) : coord_Parse.f s = some (r, c, ar, ac, true) := by
  obtain ⟨h1, h2, h3, h4⟩ := hin
  obtain ⟨x, l, hx, hx1, hx2⟩ := dec_first h1 h2
  have hp := nm_pos ⟨h3, h4⟩
  have hl := @nm_letters c
  obtain ⟨y, m, hy⟩ : ∃ y m, nm c = y :: m := by cases hn : nm c with
    | nil => rw [hn] at hp; simp at hp
    | cons y m => exact ⟨y, m, rfl⟩
  obtain ⟨s1, e1, hb1, hz1⟩ := cut_dol h (by intro r' e; rw [hy] at e; have := hl y (by rw [hy]; simp); simp at e; omega)
  have hu : upTo (bytesOf s1) = (nm c).length := by
    rw [hb1]
    refine upTo_app _ _ hl fun z r' e => ?_
    cases ar
    · simp only [dol, Bool.false_eq_true, if_false, List.nil_append] at e
      rw [hx] at e; simp at e; omega
    · simp only [dol, if_true, List.cons_append, List.nil_append] at e
      simp at e; omega
  have hsz : s1.size = (nm c).length + ((dol ar).length + (dec r).length) := by rw [← bytesOf_length, hb1]; simp
  have hd : 1 ≤ (dec r).length := by rw [hx]; simp
  unfold coord_Parse.f
  rw [e1]
  simp only [Option.bind_some]
  have hi : strings_IndexFunc__coord_Parse_1.f s1 = some ((nm c).length : Int) := by
    unfold strings_IndexFunc__coord_Parse_1.f
    rw [if_neg (by show ¬ upTo (bytesOf s1) = s1.size; omega)]
    exact congrArg some (congrArg Int.ofNat hu)
  rw [hi]
  simp only [Option.bind_some]
  rw [if_neg (by omega), if_pos (by omega), if_pos (by omega), Int.toNat_natCast]
  have hc : coord_colNumber.f (s1.extract 0 (nm c).length) = some c := by
    unfold coord_colNumber.f
    rw [if_pos (by rw [ByteArray.size_extract]; omega), bytesOf_extract, hb1, List.drop_zero, Nat.sub_zero, List.take_left, num_nm ⟨h3, h4⟩]
  rw [hc]
  simp only [Option.bind_some]
  have hb2 : bytesOf (s1.extract (nm c).length s1.size) = dol ar ++ dec r := by
    rw [bytesOf_extract, List.take_of_length_le (by rw [List.length_drop, bytesOf_length]; omega), hb1, List.drop_left]
  obtain ⟨s2, e2, hb3, hz2⟩ := cut_dol hb2 (by intro r' e; rw [hx] at e; simp at e; omega)
  rw [e2]
  simp only [Option.bind_some]
  have hrow : coord_rowNumber.f s2 = some r := by
    unfold coord_rowNumber.f
    rw [if_pos (by rw [ByteArray.size_extract] at hz2; omega), hb3, row_dec h1 h2]
  rw [hrow]
  simp only [Option.bind_some]
  rw [in_eq, decide_eq_true ⟨h1, h2, h3, h4⟩]
  rfl
theorem parse_run {s : ByteArray} (hs : s.size ≤ 140737488351232) : coord_Parse.f s = some bad ∨ ∃ r c ar ac, coord_Parse.f s = some (r, c, ar, ac, true) ∧ In r c ∧ bytesOf s = dol ac ++ (nm c ++ (dol ar ++ dec r)) := by
  obtain ⟨s1, ac, e1, hz1, h1⟩ := cut_eq s
  have hb : bytesOf s = dol ac ++ bytesOf s1 := by
    rcases h1 with ⟨rfl, h⟩ | ⟨rfl, rfl, _⟩
    · exact h
    · rfl
  unfold coord_Parse.f
  rw [e1]
  simp only [Option.bind_some]
  have hu := upTo_le (bytesOf s1)
  rw [bytesOf_length] at hu
  by_cases hn : upTo (bytesOf s1) = s1.size
  · have hi : strings_IndexFunc__coord_Parse_1.f s1 = some (-1) := by
      unfold strings_IndexFunc__coord_Parse_1.f
      rw [if_pos hn]
    rw [hi]
    exact .inl rfl
  · have hi : strings_IndexFunc__coord_Parse_1.f s1 = some (upTo (bytesOf s1) : Int) := by
      unfold strings_IndexFunc__coord_Parse_1.f
      rw [if_neg hn]
    rw [hi]
    simp only [Option.bind_some]
    generalize hnu : upTo (bytesOf s1) = n at *
    by_cases h0 : (n : Int) ≤ 0
    · rw [if_pos h0]; exact .inl rfl
    · rw [if_neg h0, if_pos (by omega), if_pos (by omega), Int.toNat_natCast]
      have hc : coord_colNumber.f (s1.extract 0 n) = some (coord_colNumber.num ((bytesOf s1).take n)) := by
        unfold coord_colNumber.f
        rw [if_pos (by rw [ByteArray.size_extract]; omega), bytesOf_extract, List.drop_zero, Nat.sub_zero]
      rw [hc]
      simp only [Option.bind_some]
      obtain ⟨s2, ar, e2, hz2, h2⟩ := cut_eq (s1.extract n s1.size)
      have hb2 : (bytesOf s1).drop n = dol ar ++ bytesOf s2 := by
        have h3 : bytesOf (s1.extract n s1.size) = (bytesOf s1).drop n := by rw [bytesOf_extract, List.take_of_length_le (by rw [List.length_drop, bytesOf_length]; omega)]
        rw [h3] at h2
        rcases h2 with ⟨rfl, h⟩ | ⟨rfl, rfl, _⟩
        · exact h
        · exact h3.symm
      rw [e2]
      simp only [Option.bind_some]
      have hrow : coord_rowNumber.f s2 = some (coord_rowNumber.num (bytesOf s2)) := by
        unfold coord_rowNumber.f
        rw [if_pos (by rw [ByteArray.size_extract] at hz2; omega)]
      rw [hrow]
      simp only [Option.bind_some]
      rw [in_eq]
      by_cases hin : In (coord_rowNumber.num (bytesOf s2)) (coord_colNumber.num ((bytesOf s1).take n))
      · rw [decide_eq_true hin]
        refine .inr ⟨_, _, ar, ac, rfl, hin, ?_⟩
        obtain ⟨k1, k2, k3, k4⟩ := hin
        rcases num_cases ((bytesOf s1).take n) with ⟨h6, _⟩ | ⟨_, _, h8⟩
        · omega
        · rw [← h8, ← row_inv k1 k2, ← hb2, List.take_append_drop]; exact hb
      · rw [decide_eq_false hin]; exact .inl rfl

/-! ### Writing -/
theorem size_of {s : ByteArray} {l : List Int} {n : Nat} (h : bytesOf s = l) (h' : l.length ≤ n) : s.size ≤ n := by rw [← bytesOf_length, h]; exact h'
theorem dec_size {r : Int} : (dec r).length ≤ 4 := by unfold dec; split; simp; split; simp; split <;> simp
theorem print_eq (k : Nat) {r c : Int} (ar ac : Bool) (hin : In r c) : ∃ t, coord_Print.f (k + 1) r c ar ac = some t ∧ bytesOf t = dol ac ++ (nm c ++ (dol ar ++ dec r)) := by
  unfold coord_Print.f
  rw [if_pos (show coord_Print.In r c from hin)]
  obtain ⟨s, hs, hb⟩ := colName_eq k c
  obtain ⟨d, hd, hc⟩ := digits_eq hin.1 hin.2.1
  rw [hs]
  simp only [Option.bind_some]
  rw [hd]
  simp only [Option.bind_some]
  rw [if_pos (size_of hb (Nat.le_trans nm_size (by omega))), if_pos (size_of hc (Nat.le_trans dec_size (by omega)))]
  refine ⟨_, rfl, ?_⟩
  have h36 : bytesOf (⟨#[36]⟩ : ByteArray) = [36] := rfl
  have h0 : bytesOf (⟨#[]⟩ : ByteArray) = [] := rfl
  cases ar <;> cases ac <;> simp [bytesOf_append, hb, hc, dol, h36, h0]
theorem print_no (k : Nat) {r c : Int} (ar ac : Bool) (hin : ¬ In r c) : coord_Print.f k r c ar ac = some ⟨#[]⟩ := by
  unfold coord_Print.f
  rw [if_neg (show ¬ coord_Print.In r c from hin)]
theorem lives_ok (k : Nat) : cadastrelaw06_lives.f (k + 1) = some true := by
  unfold cadastrelaw06_lives.f
  have hin : In 12 2 := by decide
  have hp : coord_Parse.f (⟨#[36, 66, 49, 50]⟩ : ByteArray) = some (12, 2, false, true, true) := parse_good (by decide) hin (by decide)
  rw [hp]
  simp only [Option.bind_some]
  rw [if_pos trivial, if_pos (by decide)]
  obtain ⟨t, ht, hb⟩ := print_eq k false true hin
  rw [ht]
  simp only [Option.bind_some]
  have h1 : t.toList = ([36, 66, 49, 50] : List UInt8) := by
    have : t.toList = (⟨#[36, 66, 49, 50]⟩ : ByteArray).toList := bytesOf_toList.2 (by rw [hb]; decide)
    rw [this, ByteArray.toList_eq]
  rw [if_pos h1]
  obtain ⟨u, hu, hc⟩ := colName_eq k 28
  have hcn : coord_ColName.f (k + 1) 28 = some u := by unfold coord_ColName.f; rw [hu]; rfl
  rw [hcn]
  simp only [Option.bind_some]
  have h2 : u.toList = ([65, 66] : List UInt8) := by
    have : u.toList = (⟨#[65, 66]⟩ : ByteArray).toList := bytesOf_toList.2 (by rw [hc]; decide)
    rw [this, ByteArray.toList_eq]
  rw [if_pos h2]
  rfl
theorem In_eq (a b : Int) : coord_In.f a b = some (decide (In a b)) := by unfold coord_In.f; rw [in_eq]; rfl

end Go.Proofs.YtmopbhddebpgbaaDoor.QCoordT
