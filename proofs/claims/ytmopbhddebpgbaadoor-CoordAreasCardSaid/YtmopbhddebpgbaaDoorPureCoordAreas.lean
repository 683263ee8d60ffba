/- CoordAreas: the pure statement, proved: plain Lean over what the printed functions answer; no condition. -/
import Derived.Test.YtmopbhddebpgbaaDoorCoA4
import Derived.Test.YtmopbhddebpgbaaDoorQCoordx33
set_option linter.unusedSimpArgs false
set_option linter.unusedVariables false
namespace Go.Proofs.YtmopbhddebpgbaaDoor.Pure
open Go.RowKit Go.Proofs.YtmopbhddebpgbaaDoorW.PrintWords Go.Proofs.YtmopbhddebpgbaaDoorW.PrintLast Go.Proofs.YtmopbhddebpgbaaDoorW.PrintMore Go.Proofs.YtmopbhddebpgbaaDoor.QCoord
def cn (x hi b1 b2 : Int) : Int := max 0 (min hi b2 - max x b1 + 1)
theorem cn_in {x hi b1 b2 : Int} (h : x ≤ hi) (h1 : b1 ≤ x) (h2 : x ≤ b2) : cn x hi b1 b2 = cn (x + 1) hi b1 b2 + 1 := by unfold cn; omega
theorem cn_out {x hi b1 b2 : Int} (h : x ≤ hi) (h1 : ¬ (b1 ≤ x ∧ x ≤ b2)) (hb : b1 ≤ b2) : cn x hi b1 b2 = cn (x + 1) hi b1 b2 := by unfold cn; omega
theorem cn_end {x hi b1 b2 : Int} (h : hi < x) : cn x hi b1 b2 = 0 := by unfold cn; omega
theorem cn_pos {x hi b1 b2 : Int} : 0 ≤ cn x hi b1 b2 := by unfold cn; omega
section
variable {r c r2 c2 b1 b2 b3 b4 m1 m2 m3 m4 : Int} (ha : Ok r c r2 c2) (hb : Ok b1 b2 b3 b4) (total : Int) (ht : total ≤ 60000)
include ha hb ht
theorem inner (row : Int) (hrow : r ≤ row ∧ row ≤ r2) (K0 : Nat) (more : Int) (hm : 0 ≤ more) : ∀ (d : Nat) (x n : Int), c ≤ x → c2 + 1 - x = d → 0 ≤ n →
    n + (if b1 ≤ row ∧ row ≤ b3 then cn x c2 b2 b4 else 0) + more = total →
    (∀ K, K0 ≤ K → cadastrelaw06_CoordAreas.l0 K (total - more) (row + 1) r c r2 c2 b1 b2 b3 b4 m1 m2 m3 m4 = some true) →
    ∀ K, K0 + d + 1 ≤ K → cadastrelaw06_CoordAreas.l1 K n row x r c r2 c2 b1 b2 b3 b4 m1 m2 m3 m4 = some true := by
  obtain ⟨⟨a1, a2, a3, a4⟩, ⟨a5, a6, a7, a8⟩, a9, a10⟩ := ha
  intro d
  induction d with
  | zero =>
    intro x n hx hd hn htot h K hK
    obtain ⟨K, rfl⟩ : ∃ k, K = k + 1 := ⟨K - 1, by omega⟩
    simp only [cadastrelaw06_CoordAreas.l1]
    have hw : wrap64 (row + 1) = row + 1 := by unfold wrap64; omega
    rw [if_neg (by omega), hw]
    rw [cn_end (by omega)] at htot
    have : n = total - more := by split at htot <;> omega
    rw [this]
    exact h K (by omega)
  | succ d ih =>
    intro x n hx hd hn htot h K hK
    obtain ⟨K, rfl⟩ : ∃ k, K = k + 1 := ⟨K - 1, by omega⟩
    simp only [cadastrelaw06_CoordAreas.l1]
    have hp := @cn_pos (x + 1) c2 b2 b4
    have hw1 : wrap64 (x + 1) = x + 1 := by unfold wrap64; omega
    have hb' : b2 ≤ b4 := hb.2.2.2
    rw [if_pos (by omega), has_eq, hw1]
    simp only [Option.bind_some, decide_eq_true_eq]
    by_cases hh : HasP b1 b2 b3 b4 row x
    · obtain ⟨_, e1, e2, e3, e4⟩ := hh
      rw [if_pos ⟨hb, e1, e2, e3, e4⟩]
      rw [if_pos ⟨e1, e2⟩, cn_in (by omega) e3 e4] at htot
      have hw : wrap64 (n + 1) = n + 1 := by unfold wrap64; omega
      rw [hw]
      exact ih (x + 1) (n + 1) (by omega) (by omega) (by omega) (by rw [if_pos ⟨e1, e2⟩]; omega) h K (by omega)
    · rw [if_neg hh]
      refine ih (x + 1) n (by omega) (by omega) hn ?_ h K (by omega)
      by_cases hr : b1 ≤ row ∧ row ≤ b3
      · rw [if_pos hr, cn_out (by omega) (fun g => hh ⟨hb, hr.1, hr.2, g.1, g.2⟩) hb'] at htot
        rw [if_pos hr]; exact htot
      · rw [if_neg hr] at htot ⊢; exact htot
theorem outer (harea : coord_Area.f m1 m2 m3 m4 = some total) : ∀ (d : Nat) (row n : Int), r ≤ row → r2 + 1 - row = d → 0 ≤ n → n + cn row r2 b1 b3 * cn c c2 b2 b4 = total →
    ∃ K0, ∀ K, K0 ≤ K → cadastrelaw06_CoordAreas.l0 K n row r c r2 c2 b1 b2 b3 b4 m1 m2 m3 m4 = some true := by
  intro d
  have hC := @cn_pos c c2 b2 b4
  induction d with
  | zero =>
    intro row n hr hd hn htot
    refine ⟨2, fun K hK => ?_⟩
    obtain ⟨K, rfl⟩ : ∃ k, K = k + 2 := ⟨K - 2, by omega⟩
    simp only [cadastrelaw06_CoordAreas.l0]
    rw [if_neg (by omega), harea]
    simp only [Option.bind_some]
    rw [cn_end (by omega), Int.zero_mul] at htot
    rw [if_pos (by omega), lives_ok]; rfl
  | succ d ih =>
    intro row n hr hd hn htot
    have hpos : 0 ≤ cn (row + 1) r2 b1 b3 * cn c c2 b2 b4 := Int.mul_nonneg cn_pos hC
    have hb' : b1 ≤ b3 := hb.2.2.1
    have hsplit : cn row r2 b1 b3 * cn c c2 b2 b4 = (if b1 ≤ row ∧ row ≤ b3 then cn c c2 b2 b4 else 0) + cn (row + 1) r2 b1 b3 * cn c c2 b2 b4 := by
      by_cases h : b1 ≤ row ∧ row ≤ b3
      · rw [if_pos h, cn_in (by omega) h.1 h.2, Int.add_mul, Int.one_mul, Int.add_comm]
      · rw [if_neg h, cn_out (by omega) h hb', Int.zero_add]
    rw [hsplit] at htot
    generalize hM : cn (row + 1) r2 b1 b3 * cn c c2 b2 b4 = more at *
    obtain ⟨K0, h0⟩ := ih (row + 1) (total - more) (by omega) (by omega) (by split at htot <;> omega) (by rw [hM]; omega)
    refine ⟨K0 + 60 + 2, fun K hK => ?_⟩
    obtain ⟨K, rfl⟩ : ∃ k, K = k + 1 := ⟨K - 1, by omega⟩
    simp only [cadastrelaw06_CoordAreas.l0]
    have ha' := ha
    obtain ⟨⟨a1, a2, a3, a4⟩, ⟨a5, a6, a7, a8⟩, a9, a10⟩ := ha'
    rw [if_pos (by omega)]
    exact inner ha hb total ht row ⟨hr, by omega⟩ K0 more hpos (c2 + 1 - c).toNat c n (by omega) (by omega) hn (by omega) h0 K (by omega)
end
theorem meet_eq {r c r2 c2 b1 b2 b3 b4 : Int} (ha : Ok r c r2 c2) (hb : Ok b1 b2 b3 b4) :
    ∃ m1 m2 m3 m4 ok, (∀ k, coord_Meet.f (k + 1) r c r2 c2 b1 b2 b3 b4 = some (m1, m2, m3, m4, ok)) ∧ coord_Area.f m1 m2 m3 m4 = some (cn r r2 b1 b3 * cn c c2 b2 b4) := by
  have hE : ∀ k, coord_Meet.f (k + 1) r c r2 c2 b1 b2 b3 b4 = (if Ok (max r b1) (max c b2) (min r2 b3) (min c2 b4) then some (max r b1, max c b2, min r2 b3, min c2 b4, true) else some (0, 0, 0, 0, false)) := by
    intro k
    unfold coord_Meet.f
    rw [area_eq, area_eq, if_pos ha, if_pos hb]
    have h1 := (area_val ha).2
    have h2 := (area_val hb).2
    simp only [Option.bind_some]
    rw [if_neg (by omega)]
    simp only [coord_Meet.j0]
    rw [if_neg (by simp only [beq_iff_eq]; omega), area_eq]
    simp only [Option.bind_some]
    have e1 : mx r b1 = max r b1 := by unfold mx; omega
    have e2 : mx c b2 = max c b2 := by unfold mx; omega
    have e3 : mn r2 b3 = min r2 b3 := by unfold mn; omega
    have e4 : mn c2 b4 = min c2 b4 := by unfold mn; omega
    rw [e1, e2, e3, e4]
    by_cases ho : Ok (max r b1) (max c b2) (min r2 b3) (min c2 b4)
    · have h3 := (area_val ho).2
      rw [if_pos ho, if_neg (by omega), if_pos ho]
    · rw [if_neg ho, if_pos rfl, if_neg ho]
  by_cases ho : Ok (max r b1) (max c b2) (min r2 b3) (min c2 b4)
  · refine ⟨_, _, _, _, _, fun k => by rw [hE k, if_pos ho], ?_⟩
    rw [Area_eq, if_pos ho]
    congr 1
    have k1 : cn r r2 b1 b3 = min r2 b3 - max r b1 + 1 := by have := ho.2.2.1; unfold cn; omega
    have k2 : cn c c2 b2 b4 = min c2 b4 - max c b2 + 1 := by have := ho.2.2.2; unfold cn; omega
    rw [k1, k2]
  · refine ⟨_, _, _, _, _, fun k => by rw [hE k, if_neg ho], ?_⟩
    rw [Area_eq, if_neg (by decide)]
    have h4 : cn r r2 b1 b3 = 0 ∨ cn c c2 b2 b4 = 0 := by
      unfold Ok In at ho ha hb
      unfold cn
      omega
    rcases h4 with h4 | h4 <;> rw [h4] <;> simp
theorem meet_any (k : Nat) (r c r2 c2 b1 b2 b3 b4 : Int) : ∃ v, coord_Meet.f (k + 1) r c r2 c2 b1 b2 b3 b4 = some v := by
  unfold coord_Meet.f
  simp only [area_eq, Option.bind_some, coord_Meet.j0]
  repeat' split
  all_goals exact ⟨_, rfl⟩
theorem CoordAreas : ∀ (a0_0 : Int) (a0_1 : Int) (a0_2 : Int) (a0_3 : Int) (a1_0 : Int) (a1_1 : Int) (a1_2 : Int) (a1_3 : Int), (Lit.int .i64 a0_0).wf = true → (Lit.int .i64 a0_1).wf = true → (Lit.int .i64 a0_2).wf = true → (Lit.int .i64 a0_3).wf = true → (Lit.int .i64 a1_0).wf = true → (Lit.int .i64 a1_1).wf = true → (Lit.int .i64 a1_2).wf = true → (Lit.int .i64 a1_3).wf = true → ∃ k, cadastrelaw06_CoordAreas.f k a0_0 a0_1 a0_2 a0_3 a1_0 a1_1 a1_2 a1_3 = some true := by
  intro r c r2 c2 b1 b2 b3 b4 _ _ _ _ _ _ _ _
  by_cases ha : Ok r c r2 c2
  · by_cases hb : Ok b1 b2 b3 b4
    · have h1 := (area_val ha).2
      have h2 := (area_val hb).2
      obtain ⟨m1, m2, m3, m4, ok, hm, harea⟩ := meet_eq ha hb
      have htot : cn r r2 b1 b3 * cn c c2 b2 b4 ≤ 60000 := by
        have q1 : cn r r2 b1 b3 ≤ 1000 := by unfold Ok In at ha; unfold cn; omega
        have q2 : cn c c2 b2 b4 ≤ 52 := by unfold Ok In at ha; unfold cn; omega
        have := Int.mul_le_mul q1 q2 cn_pos (by omega)
        omega
      obtain ⟨K0, h0⟩ := outer ha hb _ htot harea (r2 + 1 - r).toNat r 0 (Int.le_refl _) (by have := ha.2.2.1; omega) (by omega) (by omega)
      refine ⟨K0 + 3, ?_⟩
      unfold cadastrelaw06_CoordAreas.f
      rw [hm (K0 + 2)]
      simp only [Option.bind_some, Area_eq]
      rw [if_pos ha, if_pos hb, if_neg (by omega), if_neg (by omega)]
      simp only [cadastrelaw06_CoordAreas.j0]
      split
      · rw [lives_ok]; rfl
      · exact h0 (K0 + 2) (by omega)
    · refine ⟨2, ?_⟩
      obtain ⟨v, hv⟩ := meet_any 1 r c r2 c2 b1 b2 b3 b4
      unfold cadastrelaw06_CoordAreas.f
      rw [hv]
      simp only [Option.bind_some, Area_eq]
      rw [if_pos ha, if_neg hb]
      simp only [cadastrelaw06_CoordAreas.j0, if_true]
      split
      · rw [lives_ok]; rfl
      · rw [lives_ok]; rfl
  · refine ⟨2, ?_⟩
    obtain ⟨v, hv⟩ := meet_any 1 r c r2 c2 b1 b2 b3 b4
    unfold cadastrelaw06_CoordAreas.f
    rw [hv]
    simp only [Option.bind_some, Area_eq]
    rw [if_neg ha]
    simp only [cadastrelaw06_CoordAreas.j0, if_true]
    rw [lives_ok]; rfl
end Go.Proofs.YtmopbhddebpgbaaDoor.Pure
