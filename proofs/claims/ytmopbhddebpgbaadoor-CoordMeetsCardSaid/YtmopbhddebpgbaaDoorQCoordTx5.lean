/- Functions of the program and of the references as plain Lean functions, and that each call answers what they say; conditions: each contract names its own. Written by a program of this session. -/
import Derived.Test.YtmopbhddebpgbaaDoorQCoordTx0
namespace Go.Proofs.YtmopbhddebpgbaaDoor.QCoordT
open Go.RowKit Go.Proofs.YtmopbhddebpgbaaDoorW.PrintWords Go.Proofs.YtmopbhddebpgbaaDoorW.PrintLast Go.Proofs.YtmopbhddebpgbaaDoorW.PrintMore
attribute [local go_sem] max2_int min2_int max_two min_two max_three min_three max_four min_four   -- for this text's walks alone
set_option linter.unusedVariables false
set_option linter.unusedSimpArgs false

/-! ### coord_colNumber: function 31 -/
/-- The letters read so far; none: it is no column's name. -/
def coord_colNumber.go : List Int → Int → Option Int
  | [], n => some n
  | c :: l, n => if c < 65 ∨ c > 90 ∨ n > 52 then none else coord_colNumber.go l (26 * n + (c - 65) + 1)
def coord_colNumber.num (l : List Int) : Int := match coord_colNumber.go l 0 with
  | none => 0
  | some n => if n > 52 then 0 else n
def coord_colNumber.f (a0 : ByteArray) : Option Int := if a0.size ≤ 140737488351232 then some (coord_colNumber.num (bytesOf a0)) else none
theorem coord_colNumber.go_le (l : List Int) (n m : Int) (hn : n ≤ 1378) (h : coord_colNumber.go l n = some m) : m ≤ 1378 := by
  induction l generalizing n with
  | nil => simp only [coord_colNumber.go, Option.some.injEq] at h; omega
  | cons c l ih =>
    simp only [coord_colNumber.go] at h
    split at h
    · simp at h
    · exact ih _ (by omega) h
theorem coord_colNumber.go_bad {c : Int} {l : List Int} {m : Int} (h : c < 65 ∨ c > 90 ∨ m > 52) : coord_colNumber.go (c :: l) m = none := by simp only [coord_colNumber.go]; rw [if_pos h]
theorem coord_colNumber.go_good {c : Int} {l : List Int} {m : Int} (h : ¬ (c < 65 ∨ c > 90 ∨ m > 52)) : coord_colNumber.go (c :: l) m = coord_colNumber.go l (26 * m + (c - 65) + 1) := by simp only [coord_colNumber.go]; rw [if_neg h]
theorem coord_colNumber.num_none {l : List Int} (h : coord_colNumber.go l 0 = none) : coord_colNumber.num l = 0 := by simp [coord_colNumber.num, h]
theorem coord_colNumber.num_some {l : List Int} {n : Int} (h : coord_colNumber.go l 0 = some n) : coord_colNumber.num l = if n > 52 then 0 else n := by simp [coord_colNumber.num, h]
theorem coord_colNumber.ret {k : IntKind} {a b : Int} (h : a = b) : Ending.returned (.int k a) = .returned (.int k b) := by rw [h]
set_option maxHeartbeats 1000000 in
theorem coord_colNumber.calls (a0 : ByteArray) (r : Int) (w : World) (h : coord_colNumber.f a0 = some r) :
    Calls Tryd.prog 31 #[.string a0] w fun e w' => e = .returned (.int .i64 r) ∧ Below w.heap.size w w' := by
  unfold coord_colNumber.f at h
  split at h
  · rename_i hb
    have h2 := Option.some.inj h
    clear h
    have kb := fun W => print_bytes (P := Tryd.prog) 9 48 5 Tryd.underlying9 Tryd.underlying48 Tryd.underlying5 a0 W
    have hlen : (bytesOf a0).length = a0.size := bytesOf_length a0
    have hz : ∀ k, k < a0.size → ∃ c : Int, 0 ≤ c ∧ c ≤ 255 ∧ (Lib.bytesWorld w 5 a0).cell? ⟨w.heap.size, k, none⟩ = some (.int .u8 c) ∧ (bytesOf a0).drop k = c :: (bytesOf a0).drop (k + 1) := by
      intro k hk
      have h' : k < a0.data.toList.length := by simpa using hk
      refine ⟨(a0.data.toList.getD k 0).toNat, by omega, by have := (a0.data.toList.getD k 0).toNat_lt; omega, Lib.bytesWorld_cell w 5 a0 k hk, ?_⟩
      rw [List.drop_eq_getElem_cons (by omega)]
      congr 1
      simp [bytesOf, List.getD_eq_getElem?_getD, List.getElem?_eq_getElem h']
    have hbel : Below w.heap.size w (Lib.bytesWorld w 5 a0) := bytes_below (Below.refl _ _) (Nat.le_refl _) _ _
    go_enter Tryd.func31, Tryd.ntmps31
    go_wp2
    generalize hW : Lib.bytesWorld w 5 a0 = W at *
    clear kb
    go_loop [3, 9] (fun n i => ∃ (k : Nat) (m : Int), k ≤ a0.size ∧ i = .int .i64 k ∧ n = .int .i64 m ∧ 0 ≤ m ∧ m ≤ 1378 ∧ Hid (coord_colNumber.go ((bytesOf a0).drop k) m = coord_colNumber.go (bytesOf a0) 0)) (fun _ i => a0.size - (intOf i).toNat)
    case atStart => exact ⟨0, 0, Nat.zero_le _, rfl, rfl, by omega, by omega, Lib.hid rfl⟩
    case round =>
      obtain ⟨k, m, hk, rfl, rfl, hm0, hm1, hgo⟩ := hrel
      by_cases hlt : k < a0.size
      · obtain ⟨c, hc0, hc1, hcell, hd⟩ := hz k hlt
        have hgo2 := hgo.out
        rw [hd] at hgo2
        have hgo3 := Lib.hid hgo2
        clear hgo2 hgo hd hz
        go_wp2
        all_goals first
          | (go_round
             case rel => exact ⟨k + 1, 26 * m + (c - 65) + 1, by omega, rfl, by go_num, by omega, by omega, Lib.hid ((coord_colNumber.go_good (by omega)).symm.trans hgo3.out)⟩
             case measure => simp [intOf]; omega)
          | (go_ret
             exact ⟨coord_colNumber.ret (h2 ▸ (coord_colNumber.num_none (hgo3.out.symm.trans (coord_colNumber.go_bad (by omega)))).symm), hbel⟩)
      · have hk2 : k = a0.size := by omega
        subst hk2
        have hgo2 := hgo.out
        rw [List.drop_of_length_le (by omega)] at hgo2
        have hn := coord_colNumber.num_some hgo2.symm
        have hgo3 := Lib.hid (hn.symm.trans h2)
        clear hgo2 hgo hn hz
        go_wp2
        all_goals
          go_ret
          exact ⟨coord_colNumber.ret (by have := hgo3.out; split at this <;> omega), hbel⟩
  · simp at h

end Go.Proofs.YtmopbhddebpgbaaDoor.QCoordT
