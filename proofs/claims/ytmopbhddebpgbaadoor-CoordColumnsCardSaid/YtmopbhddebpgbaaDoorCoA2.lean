/- How the document reads a place; both readers are one. -/
import Derived.Test.YtmopbhddebpgbaaDoorCoA0
import Derived.Test.YtmopbhddebpgbaaDoorQCoordx11
import Derived.Test.YtmopbhddebpgbaaDoorQCoordx10
namespace Go.Proofs.YtmopbhddebpgbaaDoor.QCoord
set_option linter.unusedSimpArgs false
open Go.RowKit Go.Proofs.YtmopbhddebpgbaaDoorW.PrintWords Go.Proofs.YtmopbhddebpgbaaDoorW.PrintLast Go.Proofs.YtmopbhddebpgbaaDoorW.PrintMore
theorem rcolNumber_from (s : ByteArray) (d : Nat) : ∀ (k : Nat) (c : Int), 1 ≤ c → c + d = 53 → d + 1 < k →
    ∃ r, cadastreref06_ColNumber.l0 k s c = some r ∧ ((r = 0 ∧ ∀ e, c ≤ e → e ≤ 52 → bytesOf s ≠ nm e) ∨ (c ≤ r ∧ r ≤ 52 ∧ bytesOf s = nm r)) := by
  induction d with
  | zero =>
    intro k c h1 h2 hk
    obtain ⟨k, rfl⟩ : ∃ m, k = m + 1 := ⟨k - 1, by omega⟩
    simp only [cadastreref06_ColNumber.l0]
    rw [if_neg (by omega)]
    exact ⟨0, rfl, .inl ⟨rfl, fun e h3 h4 => by omega⟩⟩
  | succ d ih =>
    intro k c h1 h2 hk
    obtain ⟨k, rfl⟩ : ∃ m, k = m + 1 + 1 := ⟨k - 2, by omega⟩
    simp only [cadastreref06_ColNumber.l0]
    rw [if_pos (by omega)]
    obtain ⟨t, ht, hb⟩ := rcolName_eq k c
    rw [ht]
    simp only [Option.bind_some]
    have hw : wrap64 (c + 1) = c + 1 := by unfold wrap64; omega
    by_cases he : t.toList = s.toList
    · rw [if_pos he]
      exact ⟨c, rfl, .inr ⟨by omega, by omega, by rw [← bytesOf_toList.1 he, hb]⟩⟩
    · rw [if_neg he, hw]
      obtain ⟨r, hr, h⟩ := ih (k + 1) (c + 1) (by omega) (by omega) (by omega)
      refine ⟨r, hr, ?_⟩
      rcases h with ⟨h3, h4⟩ | ⟨h3, h4, h5⟩
      · refine .inl ⟨h3, fun e h6 h7 h8 => ?_⟩
        by_cases hc : e = c
        · subst hc
          exact he (bytesOf_toList.2 (by rw [hb, h8]))
        · exact h4 e (by omega) h7 h8
      · exact .inr ⟨by omega, h4, h5⟩
theorem rcolNumber_eq (k : Nat) (hk : 60 ≤ k) (s : ByteArray) : cadastreref06_ColNumber.f k s = some (coord_colNumber.num (bytesOf s)) := by
  obtain ⟨r, hr, h⟩ := rcolNumber_from s 52 k 1 (by omega) (by omega) (by omega)
  unfold cadastreref06_ColNumber.f
  rw [hr]
  congr 1
  rcases h with ⟨h3, h4⟩ | ⟨h3, h4, h5⟩ <;> rcases num_cases (bytesOf s) with ⟨h6, h7⟩ | ⟨h6, h7, h8⟩
  · omega
  · exact absurd h8 (h4 _ h6 h7)
  · exact absurd h5 (h7 _ h3 h4)
  · exact nm_inj ⟨h3, h4⟩ ⟨h6, h7⟩ (h5.symm.trans h8)

/-! ### Reading, as the document does -/
def lcut : List Int → List Int × Bool
  | 36 :: r => (r, true)
  | l => (l, false)
theorem lcut_yes (r : List Int) : lcut (36 :: r) = (r, true) := rfl
theorem lcut_no {l : List Int} (h : ∀ r, l ≠ 36 :: r) : lcut l = (l, false) := by
  unfold lcut
  split
  · rename_i r; exact absurd rfl (h r)
  · rfl
theorem lcut_dol (l : List Int) : l = dol (lcut l).2 ++ (lcut l).1 := by
  by_cases h : ∃ r, l = 36 :: r
  · obtain ⟨r, rfl⟩ := h; rfl
  · rw [lcut_no fun r e => h ⟨r, e⟩]; rfl
theorem lcut_of {b : Bool} {m : List Int} (hm : ∀ r, m ≠ 36 :: r) : lcut (dol b ++ m) = (m, b) := by
  cases b
  · exact lcut_no hm
  · rfl
/-- The digits from place i on. -/
def dl : Nat → Int → List Int → Option Int
  | _, row, [] => some row
  | i, row, e :: E => if e < 48 ∨ e > 57 ∨ (i = 0 ∧ e = 48) ∨ 3 < i then none else dl (i + 1) (10 * row + (e - 48)) E
def fin (o : Option Int) (col : Int) (ar ac : Bool) : Int × Int × Bool × Bool × Bool := match o with
  | none => bad
  | some r => if In r col then (r, col, ar, ac, true) else bad
theorem dl_bad {i : Nat} {row e : Int} {E : List Int} (h : e < 48 ∨ e > 57 ∨ (i = 0 ∧ e = 48) ∨ 3 < i) : dl i row (e :: E) = none := by simp only [dl]; rw [if_pos h]
theorem dl_good {i : Nat} {row e : Int} {E : List Int} (h : ¬ (e < 48 ∨ e > 57 ∨ (i = 0 ∧ e = 48) ∨ 3 < i)) : dl i row (e :: E) = dl (i + 1) (10 * row + (e - 48)) E := by simp only [dl]; rw [if_neg h]
theorem drop_step {s : ByteArray} {n : Nat} {e : Int} {E : List Int} (h : (bytesOf s).drop n = e :: E) : n < s.size ∧ bt s n = e ∧ (bytesOf s).drop (n + 1) = E := by
  have hlt : n < s.size := by
    rw [← bytesOf_length]
    rcases Nat.lt_or_ge n (bytesOf s).length with h' | h'
    · exact h'
    · rw [List.drop_of_length_le h'] at h; simp at h
  rw [bt_drop s n hlt] at h
  simp only [List.cons.injEq] at h
  exact ⟨hlt, h.1, h.2⟩
theorem drop_end {s : ByteArray} {n : Nat} (h : (bytesOf s).drop n = []) : s.size ≤ n := by
  have := congrArg List.length h
  rw [List.length_drop, bytesOf_length] at this
  simp at this
  omega
theorem l1_eq {s : ByteArray} (hs : s.size ≤ 140737488351232) (n : Nat) (hn : n ≤ s.size) (col : Int) (ar ac : Bool) : ∀ (E : List Int) (i : Nat) (K : Nat) (row : Int), (bytesOf s).drop (n + i) = E → E.length < K → 0 ≤ row → (i = 0 → row = 0) → (i ≤ 1 → row ≤ 9) → (i ≤ 2 → row ≤ 99) → (i ≤ 3 → row ≤ 999) →
    cadastreref06_Parse.l1 K s n ((n + i : Nat) : Int) row col ar ac = some (fin (dl i row E) col ar ac)
  | [], i, K, row, h, hK, _, _, _, _, _ => by
    obtain ⟨K, rfl⟩ : ∃ m, K = m + 1 := ⟨K - 1, by omega⟩
    have := drop_end h
    simp only [cadastreref06_Parse.l1]
    rw [if_neg (by omega), rin_eq]
    simp only [Option.bind_some, dl, fin]
    by_cases hin : In row col
    · rw [if_pos (decide_eq_true hin), if_pos hin]
    · rw [if_neg (by simp [hin]), if_neg hin]
  | e :: E, i, K, row, h, hK, h0, i0, i1, i2, i3 => by
    obtain ⟨K, rfl⟩ : ∃ m, K = m + 1 := ⟨K - 1, by omega⟩
    obtain ⟨hlt, hb, hE⟩ := drop_step h
    simp only [cadastreref06_Parse.l1]
    rw [hb, if_pos (by omega), if_pos (by omega)]
    have hw3 : wrap64 ((n : Int) + 3) = n + 3 := by unfold wrap64; omega
    rw [hw3]
    by_cases c1 : e < 48
    · rw [if_pos c1, dl_bad (.inl c1)]; rfl
    · rw [if_neg c1]
      by_cases c2 : e > 57
      · rw [if_pos c2, dl_bad (.inr (.inl c2))]; rfl
      · rw [if_neg c2]
        have hrec : ¬ (3 < i) → ¬ (i = 0 ∧ e = 48) → cadastreref06_Parse.l1 K s n (wrap64 (((n + i : Nat) : Int) + 1)) (wrap64 ((wrap64 (10 * row)) + ((e - 48) % 256))) col ar ac = some (fin (dl i row (e :: E)) col ar ac) := by
          intro c3 c4
          have w1 : wrap64 (((n + i : Nat) : Int) + 1) = ((n + (i + 1) : Nat) : Int) := by unfold wrap64; omega
          have w2 : wrap64 ((wrap64 (10 * row)) + ((e - 48) % 256)) = 10 * row + (e - 48) := by unfold wrap64; omega
          rw [w1, w2, dl_good (by omega)]
          exact l1_eq hs n hn col ar ac E (i + 1) K _ hE (by simp at hK; omega) (by omega) (by omega) (by omega) (by omega) (by omega)
        by_cases c3 : ((n + i : Nat) : Int) = n
        · rw [if_pos c3]
          by_cases c4 : e = 48
          · rw [if_pos c4, dl_bad (.inr (.inr (.inl ⟨by omega, c4⟩)))]; rfl
          · rw [if_neg c4, if_neg (by omega)]
            exact hrec (by omega) (by omega)
        · rw [if_neg c3]
          by_cases c4 : ((n + i : Nat) : Int) > n + 3
          · rw [if_pos c4, dl_bad (.inr (.inr (.inr (by omega))))]; rfl
          · rw [if_neg c4]
            exact hrec (by omega) (by omega)
theorem l0_eq {s : ByteArray} (hs : s.size ≤ 140737488351232) (from_ : Int) (row col : Int) (ar ac : Bool) : ∀ (E : List Int) (n : Nat) (K : Nat), (bytesOf s).drop n = E → ∃ K', cadastreref06_Parse.l0 (K + E.length + 1) s n from_ row col ar ac = cadastreref06_Parse.j3 K' s ((n + upTo E : Nat) : Int) from_ row col ar ac ∧ K ≤ K'
  | [], n, K, h => by
    have := drop_end h
    refine ⟨K, ?_, Nat.le_refl _⟩
    simp only [List.length_nil, cadastreref06_Parse.l0]
    rw [if_neg (by omega)]
    rfl
  | e :: E, n, K, h => by
    obtain ⟨hlt, hb, hE⟩ := drop_step h
    obtain ⟨M, hM⟩ : ∃ M, M = K + E.length + 1 := ⟨_, rfl⟩
    rw [show K + (e :: E).length + 1 = M + 1 by simp; omega]
    simp only [cadastreref06_Parse.l0]
    rw [if_pos (by omega), if_pos (by omega), hb]
    by_cases c : 65 ≤ e ∧ e ≤ 90
    · rw [if_pos c.1, if_pos c.2]
      have w1 : wrap64 ((n : Int) + 1) = ((n + 1 : Nat) : Int) := by unfold wrap64; omega
      obtain ⟨K', h1, h2⟩ := l0_eq hs from_ row col ar ac E (n + 1) K hE
      refine ⟨K', ?_, h2⟩
      rw [w1, show upTo (e :: E) = upTo E + 1 from strings_IndexFunc__coord_Parse_1.upTo_yes c]
      rw [hM, h1]
      congr 1
      omega
    · refine ⟨M, ?_, by omega⟩
      rw [show upTo (e :: E) = 0 from strings_IndexFunc__coord_Parse_1.upTo_no c]
      by_cases c1 : e ≥ 65
      · rw [if_pos c1, if_neg (by omega)]; rfl
      · rw [if_neg c1]; rfl
/-- What the document's reader answers. -/
def rread (l : List Int) : Int × Int × Bool × Bool × Bool :=
  fin (dl 0 0 (lcut ((lcut l).1.drop (upTo (lcut l).1))).1) (coord_colNumber.num ((lcut l).1.take (upTo (lcut l).1))) (lcut ((lcut l).1.drop (upTo (lcut l).1))).2 (lcut l).2
theorem tail_eq {s : ByteArray} (hs : s.size ≤ 140737488351232) (n : Nat) (hn : n ≤ s.size) (ac : Bool) :
    ∃ K0, ∀ K, K0 ≤ K → cadastreref06_Parse.l0 K s n n 0 0 false ac = some (fin (dl 0 0 (lcut (((bytesOf s).drop n).drop (upTo ((bytesOf s).drop n)))).1) (coord_colNumber.num (((bytesOf s).drop n).take (upTo ((bytesOf s).drop n)))) (lcut (((bytesOf s).drop n).drop (upTo ((bytesOf s).drop n)))).2 ac) := by
  refine ⟨s.size + s.size + 100, fun K hK => ?_⟩
  have hl : ((bytesOf s).drop n).length = s.size - n := by rw [List.length_drop, bytesOf_length]
  obtain ⟨K', h1, h2⟩ := l0_eq hs n 0 0 false ac ((bytesOf s).drop n) n (K - ((bytesOf s).drop n).length - 1) rfl
  rw [show K - ((bytesOf s).drop n).length - 1 + ((bytesOf s).drop n).length + 1 = K by omega] at h1
  rw [h1]
  have hu := upTo_le ((bytesOf s).drop n)
  rw [hl] at hu
  generalize hU : upTo ((bytesOf s).drop n) = u at *
  obtain ⟨m, rfl⟩ : ∃ m, K' = m + 1 + 1 + 1 := ⟨K' - 3, by omega⟩
  have hm : s.size + 60 ≤ m := by omega
  clear h2 hK h1
  simp only [cadastreref06_Parse.j3]
  rw [if_pos (by omega), if_pos (by omega), if_pos (by omega), rcolNumber_eq (m + 1 + 1) (by omega)]
  simp only [Option.bind_some]
  have hc : bytesOf (s.extract ((n : Int)).toNat (((n + u : Nat) : Int)).toNat) = ((bytesOf s).drop n).take u := by
    rw [Int.toNat_natCast, Int.toNat_natCast, bytesOf_extract]
    congr 1; omega
  rw [hc]
  generalize coord_colNumber.num (((bytesOf s).drop n).take u) = col
  have hdd : ((bytesOf s).drop n).drop u = (bytesOf s).drop (n + u) := by rw [List.drop_drop]
  rw [hdd]
  by_cases hlt : n + u < s.size
  · rw [if_pos (by omega), if_pos (by omega)]
    have hd := bt_drop s (n + u) hlt
    simp only [cadastreref06_Parse.j4]
    by_cases hb : bt s ((n + u : Nat) : Int) = 36
    · rw [if_pos (beq_iff_eq.2 hb)]
      simp only [cadastreref06_Parse.j5]
      have w1 : wrap64 (((n + u : Nat) : Int) + 1) = ((n + u + 1 : Nat) : Int) := by unfold wrap64; omega
      rw [w1]
      have := l1_eq hs (n + u + 1) (by omega) col true ac ((bytesOf s).drop (n + u + 1)) 0 m 0 rfl (by rw [List.length_drop, bytesOf_length]; omega) (by omega) (by omega) (by omega) (by omega) (by omega)
      simp only [Nat.add_zero] at this
      rw [this, hd, hb]
      rfl
    · rw [if_neg (fun e => hb (beq_iff_eq.1 e))]
      simp only [cadastreref06_Parse.j5]
      have := l1_eq hs (n + u) (by omega) col false ac ((bytesOf s).drop (n + u)) 0 m 0 rfl (by rw [List.length_drop, bytesOf_length]; omega) (by omega) (by omega) (by omega) (by omega) (by omega)
      simp only [Nat.add_zero] at this
      rw [this, lcut_no (l := (bytesOf s).drop (n + u)) (by intro r e; rw [hd] at e; simp at e; exact hb (by simpa using e.1))]
  · rw [if_neg (by omega)]
    simp only [cadastreref06_Parse.j4]
    rw [if_neg (by simp)]
    simp only [cadastreref06_Parse.j5]
    have := l1_eq hs (n + u) (by omega) col false ac ((bytesOf s).drop (n + u)) 0 m 0 rfl (by rw [List.length_drop, bytesOf_length]; omega) (by omega) (by omega) (by omega) (by omega) (by omega)
    simp only [Nat.add_zero] at this
    rw [this, lcut_no (l := (bytesOf s).drop (n + u)) (by intro r e; rw [List.drop_of_length_le (by rw [bytesOf_length]; omega)] at e; simp at e)]
theorem rparse_eq {s : ByteArray} (hs : s.size ≤ 140737488351232) : ∃ K0, ∀ K, K0 ≤ K → cadastreref06_Parse.f K s = some (rread (bytesOf s)) := by
  unfold cadastreref06_Parse.f rread
  by_cases h0 : 0 < s.size
  · have hd : bytesOf s = bt s 0 :: (bytesOf s).drop 1 := by simpa using bt_drop s 0 h0
    by_cases hb : bt s 0 = 36
    · obtain ⟨K0, h⟩ := tail_eq hs 1 h0 true
      refine ⟨K0 + 2, fun K hK => ?_⟩
      obtain ⟨K, rfl⟩ : ∃ m, K = m + 2 := ⟨K - 2, by omega⟩
      rw [if_pos (by omega)]
      simp only [cadastreref06_Parse.j0]
      rw [if_pos (by simp [hb])]
      simp only [cadastreref06_Parse.j1]
      have w1 : wrap64 ((0 : Int) + 1) = ((1 : Nat) : Int) := by unfold wrap64; omega
      rw [w1, h K (by omega)]
      have hc : lcut (bytesOf s) = ((bytesOf s).drop 1, true) := by
        rw [hb] at hd
        conv => lhs; rw [hd]
        rfl
      rw [hc]
    · obtain ⟨K0, h⟩ := tail_eq hs 0 (by omega) false
      refine ⟨K0 + 2, fun K hK => ?_⟩
      obtain ⟨K, rfl⟩ : ∃ m, K = m + 2 := ⟨K - 2, by omega⟩
      rw [if_pos (by omega)]
      simp only [cadastreref06_Parse.j0]
      rw [if_neg (by simp [hb])]
      simp only [cadastreref06_Parse.j1]
      have h' := h K (by omega)
      simp only [Int.ofNat_zero, List.drop_zero] at h'
      rw [lcut_no (l := bytesOf s) (by intro r e; rw [hd] at e; simp at e; exact hb e.1)]
      exact h'
  · obtain ⟨K0, h⟩ := tail_eq hs 0 (by omega) false
    refine ⟨K0 + 2, fun K hK => ?_⟩
    obtain ⟨K, rfl⟩ : ∃ m, K = m + 2 := ⟨K - 2, by omega⟩
    rw [if_neg (by omega)]
    simp only [cadastreref06_Parse.j0]
    rw [if_neg (by simp)]
    simp only [cadastreref06_Parse.j1]
    have h' := h K (by omega)
    simp only [Int.ofNat_zero, List.drop_zero] at h'
    have hnil : bytesOf s = [] := List.eq_nil_of_length_eq_zero (by rw [bytesOf_length]; omega)
    rw [lcut_no (l := bytesOf s) (by intro r e; rw [hnil] at e; simp at e)]
    exact h'
theorem dl_dec {r : Int} (h1 : 1 ≤ r) (h2 : r ≤ 1000) : dl 0 0 (dec r) = some r := by
  rcases dec_cases h1 h2 with ⟨h, e⟩ | ⟨h, h', e⟩ | ⟨h, h', e⟩ | ⟨h, e⟩ <;> rw [e]
  · rw [dl_good (by omega)]; simp only [dl, Option.some.injEq]; omega
  · rw [dl_good (by omega), dl_good (by omega)]; simp only [dl, Option.some.injEq]; omega
  · rw [dl_good (by omega), dl_good (by omega), dl_good (by omega)]; simp only [dl, Option.some.injEq]; omega
  · rw [dl_good (by omega), dl_good (by omega), dl_good (by omega), dl_good (by omega)]; simp only [dl, Option.some.injEq]; omega
theorem dl_inv {l : List Int} {r : Int} (h : dl 0 0 l = some r) (h1 : 1 ≤ r) (h2 : r ≤ 1000) : l = dec r := by
  match l with
  | [] => simp only [dl, Option.some.injEq] at h; omega
  | a :: l =>
    by_cases ca : a < 48 ∨ a > 57 ∨ (0 = 0 ∧ a = 48) ∨ 3 < 0
    · rw [dl_bad ca] at h; simp at h
    · rw [dl_good ca] at h
      match l with
      | [] => simp only [dl, Option.some.injEq] at h; rw [dec1 (by omega)]; congr 1; omega
      | b :: l =>
        by_cases cb : b < 48 ∨ b > 57 ∨ (0 + 1 = 0 ∧ b = 48) ∨ 3 < 0 + 1
        · rw [dl_bad cb] at h; simp at h
        · rw [dl_good cb] at h
          match l with
          | [] => simp only [dl, Option.some.injEq] at h; rw [dec2 (by omega) (by omega)]; simp only [List.cons.injEq, and_true]; omega
          | c :: l =>
            by_cases cc : c < 48 ∨ c > 57 ∨ (0 + 1 + 1 = 0 ∧ c = 48) ∨ 3 < 0 + 1 + 1
            · rw [dl_bad cc] at h; simp at h
            · rw [dl_good cc] at h
              match l with
              | [] => simp only [dl, Option.some.injEq] at h; rw [dec3 (by omega) (by omega)]; simp only [List.cons.injEq, and_true]; omega
              | d :: l =>
                by_cases cd : d < 48 ∨ d > 57 ∨ (0 + 1 + 1 + 1 = 0 ∧ d = 48) ∨ 3 < 0 + 1 + 1 + 1
                · rw [dl_bad cd] at h; simp at h
                · rw [dl_good cd] at h
                  match l with
                  | [] => simp only [dl, Option.some.injEq] at h; rw [dec4 (by omega)]; simp only [List.cons.injEq, and_true]; omega
                  | e :: l => rw [dl_bad (by omega)] at h; simp at h
theorem rread_good {r c : Int} {ar ac : Bool} (hin : In r c) : rread (dol ac ++ (nm c ++ (dol ar ++ dec r))) = (r, c, ar, ac, true) := by
  obtain ⟨h1, h2, h3, h4⟩ := hin
  obtain ⟨x, l, hx, hx1, hx2⟩ := dec_first h1 h2
  have hp := nm_pos ⟨h3, h4⟩
  have hl := @nm_letters c
  obtain ⟨y, m, hy⟩ : ∃ y m, nm c = y :: m := by cases hn : nm c with
    | nil => rw [hn] at hp; simp at hp
    | cons y m => exact ⟨y, m, rfl⟩
  unfold rread
  rw [lcut_of (by intro r' e; rw [hy] at e; have := hl y (by rw [hy]; simp); simp at e; omega)]
  have hu : upTo (nm c ++ (dol ar ++ dec r)) = (nm c).length := by
    refine upTo_app _ _ hl fun z r' e => ?_
    cases ar
    · simp only [dol, Bool.false_eq_true, if_false, List.nil_append] at e
      rw [hx] at e; simp at e; omega
    · simp only [dol, if_true, List.cons_append, List.nil_append] at e
      simp at e; omega
  simp only [hu, List.take_left, List.drop_left]
  rw [lcut_of (by intro r' e; rw [hx] at e; simp at e; omega), num_nm ⟨h3, h4⟩, dl_dec h1 h2]
  simp only [fin]
  rw [if_pos ⟨h1, h2, h3, h4⟩]
theorem rread_run (l : List Int) : rread l = bad ∨ ∃ r c ar ac, rread l = (r, c, ar, ac, true) ∧ In r c ∧ l = dol ac ++ (nm c ++ (dol ar ++ dec r)) := by
  unfold rread
  generalize hn : upTo (lcut l).1 = n
  cases hd : dl 0 0 (lcut ((lcut l).1.drop n)).1 with
  | none => exact .inl rfl
  | some r =>
    simp only [fin]
    by_cases hin : In r (coord_colNumber.num ((lcut l).1.take n))
    · rw [if_pos hin]
      refine .inr ⟨_, _, _, _, rfl, hin, ?_⟩
      obtain ⟨k1, k2, k3, k4⟩ := hin
      rcases num_cases ((lcut l).1.take n) with ⟨h6, _⟩ | ⟨_, _, h8⟩
      · omega
      · rw [← h8, ← dl_inv hd k1 k2, ← lcut_dol, List.take_append_drop, ← lcut_dol]
    · rw [if_neg hin]; exact .inl rfl
/-- Both readers are one. -/
theorem parse_both {s : ByteArray} (hs : s.size ≤ 140737488351232) : ∃ v K0, coord_Parse.f s = some v ∧ (∀ K, K0 ≤ K → cadastreref06_Parse.f K s = some v) ∧ (v = bad ∨ ∃ r c ar ac, v = (r, c, ar, ac, true) ∧ In r c ∧ bytesOf s = dol ac ++ (nm c ++ (dol ar ++ dec r))) := by
  obtain ⟨K0, hK⟩ := rparse_eq hs
  rcases parse_run hs with h | ⟨r, c, ar, ac, h, hin, hb⟩
  · rcases rread_run (bytesOf s) with h2 | ⟨r, c, ar, ac, h2, hin, hb⟩
    · exact ⟨bad, K0, h, fun K hk => by rw [hK K hk, h2], .inl rfl⟩
    · rw [parse_good hs hin hb] at h; simp at h
  · exact ⟨_, K0, h, fun K hk => by rw [hK K hk, hb, rread_good hin], .inr ⟨r, c, ar, ac, rfl, hin, hb⟩⟩

end Go.Proofs.YtmopbhddebpgbaaDoor.QCoord
