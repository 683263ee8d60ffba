/- Functions of the program and of the references as plain Lean functions, and that each call answers what they say; conditions: each contract names its own. Written by a program of this session. -/
import Derived.Test.YtmopbhddebpgbaaDoorQCoordTx0
namespace Go.Proofs.YtmopbhddebpgbaaDoor.QCoordT
open Go.RowKit Go.Proofs.YtmopbhddebpgbaaDoorW.PrintWords Go.Proofs.YtmopbhddebpgbaaDoorW.PrintLast Go.Proofs.YtmopbhddebpgbaaDoorW.PrintMore
attribute [local go_sem] max2_int min2_int max_two min_two max_three min_three max_four min_four   -- for this text's walks alone
set_option linter.unusedVariables false
set_option linter.unusedSimpArgs false

/-! ### strings_IndexFunc__coord_Parse_1: function 29 -/
/-- How many capital letters a text begins with. -/
def strings_IndexFunc__coord_Parse_1.upTo : List Int → Nat
  | [] => 0
  | c :: l => if 65 ≤ c ∧ c ≤ 90 then strings_IndexFunc__coord_Parse_1.upTo l + 1 else 0
def strings_IndexFunc__coord_Parse_1.f (a0 : ByteArray) : Option Int := some (if strings_IndexFunc__coord_Parse_1.upTo (bytesOf a0) = a0.size then -1 else (strings_IndexFunc__coord_Parse_1.upTo (bytesOf a0) : Int))
theorem strings_IndexFunc__coord_Parse_1.pred (w : World) : PredAt Tryd.prog 30 #[] encR (fun r => decide (r < 65) || decide (90 < r)) w := fun W r _ => by
  unfold FnGives
  by_cases h1 : r < 65 <;> by_cases h2 : 90 < r
  all_goals
    have z1 : (r : Int) < 65 ↔ r < 65 := by omega
    have z2 : (90 : Int) < (r : Int) ↔ 90 < r := by omega
    go_enter Tryd.func30, Tryd.ntmps30
    go_wp2
    all_goals first | (exfalso; omega) | (go_ret; exact ⟨by simp [h1, h2], 0, rfl⟩)
theorem strings_IndexFunc__coord_Parse_1.upTo_le : ∀ l : List Int, strings_IndexFunc__coord_Parse_1.upTo l ≤ l.length
  | [] => Nat.le_refl _
  | c :: l => by
    simp only [strings_IndexFunc__coord_Parse_1.upTo]
    split
    · have := strings_IndexFunc__coord_Parse_1.upTo_le l; simp; omega
    · simp
theorem strings_IndexFunc__coord_Parse_1.bytes_drop (s : ByteArray) (k : Nat) (h : k < s.size) : (bytesOf s).drop k = ((s[k]'h).toNat : Int) :: (bytesOf s).drop (k + 1) := by
  have h' : k < s.data.toList.length := by simpa using h
  rw [List.drop_eq_getElem_cons (by rw [bytesOf_length]; exact h)]
  congr 1
  simp [bytesOf]
  rfl
theorem strings_IndexFunc__coord_Parse_1.upTo_yes {c : Int} {l : List Int} (h : 65 ≤ c ∧ c ≤ 90) : strings_IndexFunc__coord_Parse_1.upTo (c :: l) = strings_IndexFunc__coord_Parse_1.upTo l + 1 := by simp only [strings_IndexFunc__coord_Parse_1.upTo]; rw [if_pos h]
theorem strings_IndexFunc__coord_Parse_1.upTo_no {c : Int} {l : List Int} (h : ¬ (65 ≤ c ∧ c ≤ 90)) : strings_IndexFunc__coord_Parse_1.upTo (c :: l) = 0 := by simp only [strings_IndexFunc__coord_Parse_1.upTo]; rw [if_neg h]
theorem strings_IndexFunc__coord_Parse_1.idx_from (s : ByteArray) : ∀ (f pos : Nat), pos ≤ s.size → s.size ≤ pos + f → Lib.idxFuncFrom (fun r => decide (r < 65) || decide (90 < r)) true s f pos = if strings_IndexFunc__coord_Parse_1.upTo ((bytesOf s).drop pos) = s.size - pos then -1 else ((pos + strings_IndexFunc__coord_Parse_1.upTo ((bytesOf s).drop pos) : Nat) : Int)
  | 0, pos, h1, h2 => by
    have : pos = s.size := by omega
    subst this
    rw [List.drop_of_length_le (by rw [bytesOf_length]; omega)]
    simp [Lib.idxFuncFrom, strings_IndexFunc__coord_Parse_1.upTo]
  | f + 1, pos, h1, h2 => by
    simp only [Lib.idxFuncFrom]
    by_cases hlt : pos < s.size
    · rw [if_pos hlt, strings_IndexFunc__coord_Parse_1.bytes_drop s pos hlt]
      by_cases hin : 65 ≤ (s[pos]'hlt).toNat ∧ (s[pos]'hlt).toNat ≤ 90
      · have hd := decode_ascii s pos hlt (by omega)
        rw [hd, if_neg (by simp; omega), strings_IndexFunc__coord_Parse_1.idx_from s f (pos + 1) (by omega) (by omega), strings_IndexFunc__coord_Parse_1.upTo_yes (by omega)]
        by_cases he : strings_IndexFunc__coord_Parse_1.upTo (List.drop (pos + 1) (bytesOf s)) = s.size - (pos + 1)
        · rw [if_pos he, if_pos (by omega)]
        · have hl := strings_IndexFunc__coord_Parse_1.upTo_le (List.drop (pos + 1) (bytesOf s))
          rw [List.length_drop, bytesOf_length] at hl
          rw [if_neg he, if_neg (by omega)]
          congr 1
          omega
      · rw [strings_IndexFunc__coord_Parse_1.upTo_no (by omega)]
        by_cases ha : (s[pos]'hlt).toNat < 128
        · rw [decode_ascii s pos hlt ha, if_pos (by simp; omega), if_neg (by omega)]; rfl
        · have := (decode_high s pos hlt (by omega)).1
          rw [if_pos (by simp; omega), if_neg (by omega)]; rfl
    · have : pos = s.size := by omega
      subst this
      rw [if_neg hlt, List.drop_of_length_le (by rw [bytesOf_length]; omega)]
      simp [strings_IndexFunc__coord_Parse_1.upTo]
theorem strings_IndexFunc__coord_Parse_1.idx (s : ByteArray) : Lib.idxFunc (fun r => decide (r < 65) || decide (90 < r)) true s = if strings_IndexFunc__coord_Parse_1.upTo (bytesOf s) = s.size then -1 else (strings_IndexFunc__coord_Parse_1.upTo (bytesOf s) : Int) := by
  unfold Lib.idxFunc
  rw [strings_IndexFunc__coord_Parse_1.idx_from s s.size 0 (by omega) (by omega)]
  simp
theorem strings_IndexFunc__coord_Parse_1.calls (a0 : ByteArray) (r : Int) (w : World) (h : strings_IndexFunc__coord_Parse_1.f a0 = some r) :
    Calls Tryd.prog 29 #[.string a0, .func (.func 30) #[] #[]] w fun e w' => e = .returned (.int .i64 r) ∧ Below w.heap.size w w' := by
  obtain rfl := Option.some.inj h
  refine (Tryd.strings_IndexFunc 30 #[] (enters_of Tryd.func30 (by kernel_rfl) rfl) _ a0 w (strings_IndexFunc__coord_Parse_1.pred w)).mono ?_
  rintro e w' ⟨rfl, hb⟩
  exact ⟨by rw [strings_IndexFunc__coord_Parse_1.idx], hb⟩

-- NOT PRINTED: function 29 (strings_IndexFunc)

end Go.Proofs.YtmopbhddebpgbaaDoor.QCoordT
