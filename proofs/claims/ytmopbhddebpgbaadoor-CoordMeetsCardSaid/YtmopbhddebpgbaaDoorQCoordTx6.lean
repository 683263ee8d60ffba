/- Functions of the program and of the references as plain Lean functions, and that each call answers what they say; conditions: each contract names its own. Written by a program of this session. -/
import Derived.Test.YtmopbhddebpgbaaDoorQCoordTx0
namespace Go.Proofs.YtmopbhddebpgbaaDoor.QCoordT
open Go.RowKit Go.Proofs.YtmopbhddebpgbaaDoorW.PrintWords Go.Proofs.YtmopbhddebpgbaaDoorW.PrintLast Go.Proofs.YtmopbhddebpgbaaDoorW.PrintMore
attribute [local go_sem] max2_int min2_int max_two min_two max_three min_three max_four min_four   -- for this text's walks alone
set_option linter.unusedVariables false
set_option linter.unusedSimpArgs false

/-! ### coord_rowNumber: function 32 -/
/-- The digits read so far; none: it is no row's number. -/
def coord_rowNumber.go : List Int → Int → Option Int
  | [], n => some n
  | c :: l, n => if c < 48 ∨ c > 57 ∨ n > 1000 then none else coord_rowNumber.go l (10 * n + (c - 48))
def coord_rowNumber.num (l : List Int) : Int := if l.getD 0 48 = 48 then 0 else (coord_rowNumber.go l 0).getD 0
def coord_rowNumber.f (a0 : ByteArray) : Option Int := if a0.size ≤ 140737488351232 then some (coord_rowNumber.num (bytesOf a0)) else none
theorem coord_rowNumber.go_le (l : List Int) (n m : Int) (hn : n ≤ 10009) (h : coord_rowNumber.go l n = some m) : m ≤ 10009 := by
  induction l generalizing n with
  | nil => simp only [coord_rowNumber.go, Option.some.injEq] at h; omega
  | cons c l ih =>
    simp only [coord_rowNumber.go] at h
    split at h
    · simp at h
    · exact ih _ (by omega) h
theorem coord_rowNumber.go_bad {c : Int} {l : List Int} {m : Int} (h : c < 48 ∨ c > 57 ∨ m > 1000) : coord_rowNumber.go (c :: l) m = none := by simp only [coord_rowNumber.go]; rw [if_pos h]
theorem coord_rowNumber.go_good {c : Int} {l : List Int} {m : Int} (h : ¬ (c < 48 ∨ c > 57 ∨ m > 1000)) : coord_rowNumber.go (c :: l) m = coord_rowNumber.go l (10 * m + (c - 48)) := by simp only [coord_rowNumber.go]; rw [if_neg h]
theorem coord_rowNumber.num_zero {l : List Int} (h : l.getD 0 48 = 48) : coord_rowNumber.num l = 0 := by simp only [coord_rowNumber.num]; rw [if_pos h]
theorem coord_rowNumber.num_none {l : List Int} (h0 : l.getD 0 48 ≠ 48) (h : coord_rowNumber.go l 0 = none) : coord_rowNumber.num l = 0 := by simp only [coord_rowNumber.num]; rw [if_neg h0, h]; rfl
theorem coord_rowNumber.num_some {l : List Int} {n : Int} (h0 : l.getD 0 48 ≠ 48) (h : coord_rowNumber.go l 0 = some n) : coord_rowNumber.num l = n := by simp only [coord_rowNumber.num]; rw [if_neg h0, h]; rfl
theorem coord_rowNumber.ret {k : IntKind} {a b : Int} (h : a = b) : Ending.returned (.int k a) = .returned (.int k b) := by rw [h]
set_option maxHeartbeats 1000000 in
theorem coord_rowNumber.calls (a0 : ByteArray) (r : Int) (w : World) (h : coord_rowNumber.f a0 = some r) :
    Calls Tryd.prog 32 #[.string a0] w fun e w' => e = .returned (.int .i64 r) ∧ Below w.heap.size w w' := by
  unfold coord_rowNumber.f at h
  split at h
  · rename_i hb
    have h2 := Option.some.inj h
    clear h
    have kb := fun W => print_bytes (P := Tryd.prog) 9 48 5 Tryd.underlying9 Tryd.underlying48 Tryd.underlying5 a0 W
    have hlen : (bytesOf a0).length = a0.size := bytesOf_length a0
    have hz : ∀ k, k < a0.size → ∃ c : Int, 0 ≤ c ∧ c ≤ 255 ∧ (Lib.bytesWorld w 5 a0).cell? ⟨w.heap.size, k, none⟩ = some (.int .u8 c) ∧ (bytesOf a0).drop k = c :: (bytesOf a0).drop (k + 1) := by
      intro k hk
      have h' : k < a0.data.toList.length := by simpa using hk
      refine ⟨(a0.data.toList.getD k 0).toNat, by omega, by have := (a0.data.toList.getD k 0).toNat_lt; omega, Lib.bytesWorld_cell w 5 a0 k hk, ?_⟩
      rw [List.drop_eq_getElem_cons (by omega)]
      congr 1
      simp [bytesOf, List.getD_eq_getElem?_getD, List.getElem?_eq_getElem h']
    have hbel : Below w.heap.size w (Lib.bytesWorld w 5 a0) := bytes_below (Below.refl _ _) (Nat.le_refl _) _ _
    by_cases he : a0.size = 0
    · obtain rfl : a0 = ⟨#[]⟩ := by
        rcases a0 with ⟨⟨l⟩⟩
        have : l.length = 0 := he
        cases l <;> simp_all
      go_enter Tryd.func32, Tryd.ntmps32
      go_wp2
      go_ret
      exact ⟨coord_rowNumber.ret (h2 ▸ (coord_rowNumber.num_zero rfl).symm), Below.refl _ _⟩
    · have h0 : 0 < a0.size := by omega
      have h0' : 0 < a0.data.toList.length := by simpa using h0
      have hne : a0.toList.isEmpty = false := by
        rw [ByteArray.toList_eq]
        cases hl : a0.data.toList with
        | nil => rw [hl] at h0'; simp at h0'
        | cons x l => rfl
      have hrd : (bytesOf a0).getD 0 48 = (a0[0]'h0).toNat := by
        simp [bytesOf, List.getD_eq_getElem?_getD, List.getElem?_eq_getElem h0']
        rfl
      by_cases hd0 : ((a0[0]'h0).toNat : Int) = 48
      · have hr := coord_rowNumber.num_zero (hrd.trans hd0)
        have hd1 : (((a0[0]'h0).toNat : Int) == 48) = true := by simp [hd0]
        clear hrd hlen hz hbel kb hd0
        go_enter Tryd.func32, Tryd.ntmps32
        go_wp2
        go_ret
        exact ⟨coord_rowNumber.ret (h2 ▸ hr.symm), Below.refl _ _⟩
      · have hd1 : (((a0[0]'h0).toNat : Int) == 48) = false := by simp [hd0]
        have hnz : (bytesOf a0).getD 0 48 ≠ 48 := fun e => hd0 (hrd.symm.trans e)
        clear hrd hd0
        go_enter Tryd.func32, Tryd.ntmps32
        go_wp2
        generalize hW : Lib.bytesWorld w 5 a0 = W at *
        clear kb
        go_loop [3, 16] (fun n i => ∃ (k : Nat) (m : Int), k ≤ a0.size ∧ i = .int .i64 k ∧ n = .int .i64 m ∧ 0 ≤ m ∧ m ≤ 10009 ∧ Hid (coord_rowNumber.go ((bytesOf a0).drop k) m = coord_rowNumber.go (bytesOf a0) 0)) (fun _ i => a0.size - (intOf i).toNat)
        case atStart => exact ⟨0, 0, Nat.zero_le _, rfl, rfl, by omega, by omega, Lib.hid rfl⟩
        case round =>
          obtain ⟨k, m, hk, rfl, rfl, hm0, hm1, hgo⟩ := hrel
          by_cases hlt : k < a0.size
          · obtain ⟨c, hc0, hc1, hcell, hd⟩ := hz k hlt
            have hgo2 := hgo.out
            rw [hd] at hgo2
            have hgo3 := Lib.hid hgo2
            clear hgo2 hgo hd hz
            go_wp2
            all_goals first
              | (go_round
                 case rel => exact ⟨k + 1, 10 * m + (c - 48), by omega, rfl, by go_num, by omega, by omega, Lib.hid ((coord_rowNumber.go_good (by omega)).symm.trans hgo3.out)⟩
                 case measure => simp [intOf]; omega)
              | (go_ret
                 exact ⟨coord_rowNumber.ret (h2 ▸ (coord_rowNumber.num_none hnz (hgo3.out.symm.trans (coord_rowNumber.go_bad (by omega)))).symm), hbel⟩)
          · have hk2 : k = a0.size := by omega
            subst hk2
            have hgo2 := hgo.out
            rw [List.drop_of_length_le (by omega)] at hgo2
            have hn := coord_rowNumber.num_some hnz hgo2.symm
            have hgo3 := Lib.hid (hn.symm.trans h2)
            clear hgo2 hgo hn hz
            go_wp2
            go_ret
            exact ⟨coord_rowNumber.ret hgo3.out, hbel⟩
  · simp at h

end Go.Proofs.YtmopbhddebpgbaaDoor.QCoordT
