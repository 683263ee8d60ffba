/- How the document writes a place. -/
import Derived.Test.YtmopbhddebpgbaaDoorCoA0
import Derived.Test.YtmopbhddebpgbaaDoorQCoordx19
import Derived.Test.YtmopbhddebpgbaaDoorQCoordx18
namespace Go.Proofs.YtmopbhddebpgbaaDoor.QCoord
set_option linter.unusedSimpArgs false
open Go.RowKit Go.Proofs.YtmopbhddebpgbaaDoorW.PrintWords Go.Proofs.YtmopbhddebpgbaaDoorW.PrintLast Go.Proofs.YtmopbhddebpgbaaDoorW.PrintMore
/-- How the document's own writer writes a row. -/
theorem whole1 (k : Nat) {r : Int} (h0 : 0 ≤ r) (h : r < 10) : ∃ s, cadastreref03_Whole.f (k + 1) r = some s ∧ bytesOf s = [48 + r] := by
  simp only [cadastreref03_Whole.f, Option.bind_some]
  rw [if_neg (by omega)]
  refine ⟨_, rfl, ?_⟩
  rw [Int.tmod_eq_emod_of_nonneg h0, bytesOf_nums _ (by intro x hx; simp at hx; omega)]
  congr 1; omega
theorem wholes (k : Nat) {r : Int} (h : 10 ≤ r) (h1 : r ≤ 100000) {s : ByteArray} (hs : cadastreref03_Whole.f k (r / 10) = some s) (hl : s.size ≤ 100) : ∃ s', cadastreref03_Whole.f (k + 1) r = some s' ∧ bytesOf s' = bytesOf s ++ [48 + r % 10] ∧ s'.size ≤ s.size + 1 := by
  simp only [cadastreref03_Whole.f, Option.bind_some]
  have e : IntKind.u64.wrap (Int.tdiv r 10) = r / 10 := by rw [Int.tdiv_eq_ediv_of_nonneg (by omega)]; (simp [IntKind.wrap, IntKind.bits, IntKind.signed] <;> omega)
  rw [if_pos (by omega), e, hs]
  simp only [Option.bind_some]
  have h2 : (strOfNums [(48 + Int.tmod r 10 % 256) % 256]).size = 1 := by rw [strOfNums_size]; rfl
  rw [h2, if_pos (by omega)]
  refine ⟨_, rfl, ?_, ?_⟩
  · rw [bytesOf_append, Int.tmod_eq_emod_of_nonneg (by omega), bytesOf_nums _ (by intro x hx; simp at hx; omega)]
    congr 2; omega
  · rw [ByteArray.size_append, h2]; omega
theorem rdigits_eq (k : Nat) {r : Int} (h1 : 1 ≤ r) (h2 : r ≤ 1000) : ∃ s, cadastreref03_Digits.f (k + 4) r = some s ∧ bytesOf s = dec r := by
  unfold cadastreref03_Digits.f
  have e : IntKind.u64.wrap r = r := by (simp [IntKind.wrap, IntKind.bits, IntKind.signed] <;> omega)
  rw [if_neg (by omega), e]
  have size1 : ∀ {s : ByteArray} {l : List Int} {n : Nat}, bytesOf s = l → l.length ≤ n → s.size ≤ n := fun h h' => by rw [← bytesOf_length, h]; exact h'
  by_cases a : r < 10
  · obtain ⟨s, hs, hb⟩ := whole1 (k + 3) (by omega) a
    rw [hs]; exact ⟨s, rfl, by rw [hb, dec1 a]⟩
  · by_cases b : r < 100
    · obtain ⟨s, hs, hb⟩ := whole1 (k + 2) (r := r / 10) (by omega) (by omega)
      obtain ⟨s', hs', hb', _⟩ := wholes (k + 2 + 1) (by omega) (by omega) hs (size1 hb (by simp))
      rw [hs']; exact ⟨s', rfl, by rw [hb', hb, dec2 (by omega) b]; rfl⟩
    · by_cases c : r < 1000
      · obtain ⟨s, hs, hb⟩ := whole1 (k + 1) (r := r / 10 / 10) (by omega) (by omega)
        obtain ⟨s', hs', hb', hz⟩ := wholes (k + 1 + 1) (r := r / 10) (by omega) (by omega) hs (size1 hb (by simp))
        obtain ⟨s'', hs'', hb'', _⟩ := wholes (k + 1 + 1 + 1) (r := r) (by omega) (by omega) hs' (size1 (by rw [hb', hb]) (by simp))
        rw [hs'']; exact ⟨s'', rfl, by rw [hb'', hb', hb, dec3 (by omega) c]; simp only [List.cons_append, List.nil_append, List.cons.injEq, and_true]; omega⟩
      · obtain ⟨s, hs, hb⟩ := whole1 k (r := r / 10 / 10 / 10) (by omega) (by omega)
        obtain ⟨s1, hs1, hb1, _⟩ := wholes (k + 1) (r := r / 10 / 10) (by omega) (by omega) hs (size1 hb (by simp))
        obtain ⟨s2, hs2, hb2, _⟩ := wholes (k + 1 + 1) (r := r / 10) (by omega) (by omega) hs1 (size1 (by rw [hb1, hb]) (by simp))
        obtain ⟨s3, hs3, hb3, _⟩ := wholes (k + 1 + 1 + 1) (r := r) (by omega) (by omega) hs2 (size1 (by rw [hb2, hb1, hb]) (by simp))
        rw [hs3]; exact ⟨s3, rfl, by rw [hb3, hb2, hb1, hb, dec4 (by omega)]; simp only [List.cons_append, List.nil_append, List.cons.injEq, and_true]; omega⟩

theorem rprint_eq (k : Nat) {r c : Int} (ar ac : Bool) (hin : In r c) : ∃ t, cadastreref06_Print.f (k + 10) r c ar ac = some t ∧ bytesOf t = dol ac ++ (nm c ++ (dol ar ++ dec r)) := by
  unfold cadastreref06_Print.f
  rw [rin_eq]
  simp only [Option.bind_some]
  rw [if_pos (decide_eq_true hin)]
  obtain ⟨s, hs, hb⟩ := rcolName_eq (k + 8) c
  obtain ⟨d, hd, hc⟩ := rdigits_eq (k + 5) hin.1 hin.2.1
  have z1 := size_of hb nm_size
  have z2 := size_of hc dec_size
  have h36 : bytesOf (⟨#[36]⟩ : ByteArray) = [36] := rfl
  have h0 : bytesOf (⟨#[]⟩ : ByteArray) = [] := rfl
  have y36 : (⟨#[36]⟩ : ByteArray).size = 1 := rfl
  have y0 : (⟨#[]⟩ : ByteArray).size = 0 := rfl
  have e1 : cadastreref06_ColName.f (k + 9) c = some s := hs
  have e2 : cadastreref03_Digits.f (k + 9) r = some d := hd
  cases ac <;> cases ar <;> simp only [Bool.false_eq_true, if_true, if_false, cadastreref06_Print.j0, e1, e2, Option.bind_some] <;>
    (rw [if_pos (by simp only [ByteArray.size_append, y36, y0]; omega), if_pos (by simp only [ByteArray.size_append, y36, y0]; omega), if_pos (by simp only [ByteArray.size_append, y36, y0]; omega)]; refine ⟨_, rfl, ?_⟩; simp [bytesOf_append, hb, hc, dol, h36, h0])
theorem rprint_no (k : Nat) {r c : Int} (ar ac : Bool) (hin : ¬ In r c) : cadastreref06_Print.f k r c ar ac = some ⟨#[]⟩ := by
  unfold cadastreref06_Print.f
  rw [rin_eq]
  simp only [Option.bind_some]
  rw [if_neg (by simp [hin])]
end Go.Proofs.YtmopbhddebpgbaaDoor.QCoord
