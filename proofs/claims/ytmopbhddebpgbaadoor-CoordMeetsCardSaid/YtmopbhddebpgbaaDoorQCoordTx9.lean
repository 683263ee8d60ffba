/- Functions of the program and of the references as plain Lean functions, and that each call answers what they say; conditions: each contract names its own. Written by a program of this session. -/
import Derived.Test.YtmopbhddebpgbaaDoorQCoordTx0
namespace Go.Proofs.YtmopbhddebpgbaaDoor.QCoordT
open Go.RowKit Go.Proofs.YtmopbhddebpgbaaDoorW.PrintWords Go.Proofs.YtmopbhddebpgbaaDoorW.PrintLast Go.Proofs.YtmopbhddebpgbaaDoorW.PrintMore
attribute [local go_sem] max2_int min2_int max_two min_two max_three min_three max_four min_four   -- for this text's walks alone
set_option linter.unusedVariables false
set_option linter.unusedSimpArgs false

/-! ### coord_colName: function 34 -/
def coord_colName.j0 : Nat → Int → Bool → Option (ByteArray)
  | 0, _, _ => none
  | k + 1, x0, x3 => if x3 = true then (some (⟨#[]⟩ : ByteArray)) else (if x0 ≤ 26 then (some (strOfNums (([(65 + ((wrap64 (x0 - 1)) % 256)) % 256] : List Int)))) else (some (strOfNums (([(65 + ((wrap64 ((wrap64 (Int.tdiv (wrap64 (x0 - 1)) 26)) - 1)) % 256)) % 256, (65 + ((Int.tmod (wrap64 (x0 - 1)) 26) % 256)) % 256] : List Int)))))
def coord_colName.f (k : Nat) (a0 : Int) : Option (ByteArray) := if a0 < 1 then (coord_colName.j0 k a0 true) else (coord_colName.j0 k a0 (decide (a0 > 52)))
theorem coord_colName.mono_l : ∀ k, (∀ y0 y1, LeO (coord_colName.j0 k y0 y1) (coord_colName.j0 (k + 1) y0 y1))
  | 0 => fun _ _ r h => by simp [coord_colName.j0] at h
  | k + 1 => by
    have ih0 := coord_colName.mono_l k
    · intro y0 y1
      unfold coord_colName.j0
      repeat' first
      | (with_reducible exact ih0 _ _)
      | (with_reducible exact LeO.refl _)
      | (with_reducible exact LeO.none _)
      | (with_reducible refine LeO.ite ?_ ?_)
      | (with_reducible refine LeO.bind ?_ (fun _ => ?_))
      | exact ih0 _ _
      | exact LeO.none _
      | refine LeO.ite ?_ ?_
      | refine LeO.bind ?_ (fun _ => ?_)
theorem coord_colName.mono : ∀ a0 k, LeO (coord_colName.f k a0) (coord_colName.f (k + 1) a0) := by
  intro a0 k
  have ih0 := coord_colName.mono_l k
  unfold coord_colName.f
  repeat' first
      | (with_reducible exact ih0 _ _)
      | (with_reducible exact LeO.refl _)
      | (with_reducible exact LeO.none _)
      | (with_reducible refine LeO.ite ?_ ?_)
      | (with_reducible refine LeO.bind ?_ (fun _ => ?_))
      | exact ih0 _ _
      | exact LeO.none _
      | refine LeO.ite ?_ ?_
      | refine LeO.bind ?_ (fun _ => ?_)
set_option maxHeartbeats 8000000 in
set_option maxRecDepth 100000 in
theorem coord_colName.calls (k : Nat) (a0 : Int) (r : ByteArray) (w : World) (h : coord_colName.f k a0 = some r) :
    Calls Tryd.prog 34 #[.int .i64 a0] w fun e w' => e = .returned (.string r) ∧ Below w.heap.size w w' := by
  have HB := Aside0.mk (Below.refl w.heap.size w)
  have H : (if a0 < 1 then (coord_colName.j0 k a0 true) else (coord_colName.j0 k a0 (decide (a0 > 52)))) = some r := h
  clear h
  have HC2 := Aside0.mk H
  clear H
  go_enter Tryd.func34, Tryd.ntmps34
  go_upto_region 1 with (fail)
  go_cut [3] (fun v3 wc => ∃ (kq : Nat) (x3_1 : Bool), v3 = .bool x3_1 ∧ Aside0 (coord_colName.j0 kq a0 x3_1 = some r) ∧ Aside0 (kq ≤ k) ∧ Aside0 (Below w.heap.size w wc))
  case first =>
    have H := HC2.out
    clear HC2
    by_cases c3 : a0 < 1
    · rw [if_pos c3] at H
      have c3b0 : decide (a0 < 1) = true := decide_eq_true c3
      clear c3
      (first | rw [c3b0] | (simp only [i64_w, i32_w]; rw [c3b0]) | skip)
      have H' := Aside0.mk H
      clear H
      go_wp2
      go_meet
      case rel => exact ⟨_, (true), (by first | rfl | (simp; done) | (simp [*]; done) | (simp; unfold wrap64; omega)), H', ⟨by first | omega | exact Nat.le_refl _⟩, ⟨by repeat (first | (with_reducible first | exact HB.out | apply below_alloc | apply pw_below_drewN | apply below_drew1) | exact HB.out)⟩⟩
    · rw [if_neg c3] at H
      have c3b0 : decide (a0 < 1) = false := decide_eq_false c3
      clear c3
      (first | rw [c3b0] | (simp only [i64_w, i32_w]; rw [c3b0]) | skip)
      have H' := Aside0.mk H
      clear H
      go_wp2
      go_meet
      case rel => exact ⟨_, (decide (a0 > 52)), (by first | rfl | (simp; done) | (simp [*]; done) | (simp; unfold wrap64; omega)), H', ⟨by first | omega | exact Nat.le_refl _⟩, ⟨by repeat (first | (with_reducible first | exact HB.out | apply below_alloc | apply pw_below_drewN | apply below_drew1) | exact HB.out)⟩⟩
  case rest =>
    clear HC2
    try clear p2
    try clear c3
    try clear c3b0
    obtain ⟨kq, x3_1, rfl, HA, HJ1, HB⟩ := hcut
    cases kq with
    | zero => exact absurd HA.out (by simp [coord_colName.j0])
    | succ kj1 =>
      have H := HA.out
      clear HA
      simp only [coord_colName.j0] at H
      by_cases c4 : x3_1 = true
      · subst c4
        have H1 : (some (⟨#[]⟩ : ByteArray)) = some r := by rw [if_pos rfl] at H; exact H
        clear H
        have H := H1
        clear H1
        obtain rfl := Option.some.inj H
        go_wp2
        go_ret
        exact ⟨by first | rfl | (simp [errW_none, errW_some] <;> rfl) | (simp [*, errW_none, errW_some] <;> rfl), by repeat (first | (with_reducible first | exact HB.out | apply below_alloc | apply pw_below_drewN | apply below_drew1) | exact HB.out)⟩
      · replace c4 := Bool.eq_false_iff.mpr c4
        subst c4
        have H1 : (if a0 ≤ 26 then (some (strOfNums (([(65 + ((wrap64 (a0 - 1)) % 256)) % 256] : List Int)))) else (some (strOfNums (([(65 + ((wrap64 ((wrap64 (Int.tdiv (wrap64 (a0 - 1)) 26)) - 1)) % 256)) % 256, (65 + ((Int.tmod (wrap64 (a0 - 1)) 26) % 256)) % 256] : List Int))))) = some r := by rw [if_neg (show ¬ (false = true) by decide)] at H; exact H
        clear H
        have H := H1
        clear H1
        by_cases c5 : a0 ≤ 26
        · rw [if_pos c5] at H
          have c5b0 : decide (a0 ≤ 26) = true := decide_eq_true c5
          clear c5
          obtain ⟨y114, hy114⟩ : ∃ y_ : List Int, y_ = (([(65 + ((wrap64 (a0 - 1)) % 256)) % 256] : List Int)) := ⟨_, rfl⟩
          replace H : (some (strOfNums y114)) = some r := by first | (rw [hy114]; with_reducible exact H) | (have H2_ := (Option.bind_some _ _).symm.trans H; rw [hy114]; with_reducible exact H2_) | (have H2_ := (Option.bind_some _ _).symm.trans H; with_reducible exact H2_) | with_reducible exact H | (rw [hy114]; exact H) | exact H
          have Ny114 := Aside0.mk hy114
          clear hy114
          obtain rfl := Option.some.inj H
          go_wp2_with (first | ((with_reducible refine gate_dst (N := 17) rfl ?_); refine Kd.R_lit (Kd.int .u8) _ 5 ?hg (N := 17) ?hd (xs := ([(65 + ((wrap64 (a0 - 1)) % 256)) % 256] : List Int)) (inner := [.int .u8 ((65 + ((wrap64 (a0 - 1)) % 256)) % 256)]) (ok := fun _ => True) (okp := fun _ => True) ?hr ?hp (fun _ hk => hk) trivial (Below.refl _ _) (Nat.le_refl _) (by simp) ?_; (case hd => rfl); (case hg => rfl); (case hr => first | (go_simp; done) | (go_simp; rfl)); (case hp => exact (Reps.one (show Kd.M (Kd.int .u8) _ _ _ ((65 + ((wrap64 (a0 - 1)) % 256)) % 256) [.int .u8 ((65 + ((wrap64 (a0 - 1)) % 256)) % 256)] from rfl) (Reps.none _ _))); intro v115 w6 ho7 hb hg_ hnew_; clear hg_ hnew_; (first | rw [← Ny114.out] at ho7 | (simp only [Int.reduceToNat] at ho7; rw [← Ny114.out] at ho7)); have n0_ := Aside0.mk (Kd.R_lower ho7 (below_size (by repeat (first | (with_reducible first | exact HB.out | apply below_alloc | apply pw_below_drewN | apply below_drew1) | exact HB.out)))); have n1_ := Aside0.mk (below_step (by repeat (first | (with_reducible first | exact HB.out | apply below_alloc | apply pw_below_drewN | apply below_drew1) | exact HB.out)) hb); clear HB; have HO116 := n0_; have HB := n1_; clear n0_ n1_; clear hb ho7; have hcv8 := own_string (P := Tryd.prog) Tryd.underlying48 Tryd.underlying5 Tryd.underlying9 (Kd.own_of_R HO116.out)))
          go_ret
          exact ⟨by first | rfl | (simp [errW_none, errW_some] <;> rfl) | (simp [*, errW_none, errW_some] <;> rfl), by repeat (first | (with_reducible first | exact HB.out | apply below_alloc | apply pw_below_drewN | apply below_drew1) | exact HB.out)⟩
        · rw [if_neg c5] at H
          have c5b0 : decide (a0 ≤ 26) = false := decide_eq_false c5
          clear c5
          obtain ⟨y117, hy117⟩ : ∃ y_ : List Int, y_ = (([(65 + ((wrap64 ((wrap64 (Int.tdiv (wrap64 (a0 - 1)) 26)) - 1)) % 256)) % 256, (65 + ((Int.tmod (wrap64 (a0 - 1)) 26) % 256)) % 256] : List Int)) := ⟨_, rfl⟩
          replace H : (some (strOfNums y117)) = some r := by first | (rw [hy117]; with_reducible exact H) | (have H2_ := (Option.bind_some _ _).symm.trans H; rw [hy117]; with_reducible exact H2_) | (have H2_ := (Option.bind_some _ _).symm.trans H; with_reducible exact H2_) | with_reducible exact H | (rw [hy117]; exact H) | exact H
          have Ny117 := Aside0.mk hy117
          clear hy117
          obtain rfl := Option.some.inj H
          go_wp2_with (first | ((with_reducible refine gate_dst (N := 30) rfl ?_); refine Kd.R_lit (Kd.int .u8) _ 5 ?hg (N := 30) ?hd (xs := ([(65 + ((wrap64 ((wrap64 (Int.tdiv (wrap64 (a0 - 1)) 26)) - 1)) % 256)) % 256, (65 + ((Int.tmod (wrap64 (a0 - 1)) 26) % 256)) % 256] : List Int)) (inner := [.int .u8 ((65 + ((wrap64 ((wrap64 (Int.tdiv (wrap64 (a0 - 1)) 26)) - 1)) % 256)) % 256), .int .u8 ((65 + ((Int.tmod (wrap64 (a0 - 1)) 26) % 256)) % 256)]) (ok := fun _ => True) (okp := fun _ => True) ?hr ?hp (fun _ hk => hk) trivial (Below.refl _ _) (Nat.le_refl _) (by simp) ?_; (case hd => rfl); (case hg => rfl); (case hr => first | (go_simp; done) | (go_simp; rfl)); (case hp => exact (Reps.one (show Kd.M (Kd.int .u8) _ _ _ ((65 + ((wrap64 ((wrap64 (Int.tdiv (wrap64 (a0 - 1)) 26)) - 1)) % 256)) % 256) [.int .u8 ((65 + ((wrap64 ((wrap64 (Int.tdiv (wrap64 (a0 - 1)) 26)) - 1)) % 256)) % 256)] from rfl) (Reps.one (show Kd.M (Kd.int .u8) _ _ _ ((65 + ((Int.tmod (wrap64 (a0 - 1)) 26) % 256)) % 256) [.int .u8 ((65 + ((Int.tmod (wrap64 (a0 - 1)) 26) % 256)) % 256)] from rfl) (Reps.none _ _)))); intro v118 w9 ho10 hb hg_ hnew_; clear hg_ hnew_; (first | rw [← Ny117.out] at ho10 | (simp only [Int.reduceToNat] at ho10; rw [← Ny117.out] at ho10)); have n0_ := Aside0.mk (Kd.R_lower ho10 (below_size (by repeat (first | (with_reducible first | exact HB.out | apply below_alloc | apply pw_below_drewN | apply below_drew1) | exact HB.out)))); have n1_ := Aside0.mk (below_step (by repeat (first | (with_reducible first | exact HB.out | apply below_alloc | apply pw_below_drewN | apply below_drew1) | exact HB.out)) hb); clear HB; have HO119 := n0_; have HB := n1_; clear n0_ n1_; clear hb ho10; have hcv11 := own_string (P := Tryd.prog) Tryd.underlying48 Tryd.underlying5 Tryd.underlying9 (Kd.own_of_R HO119.out)))
          go_ret
          exact ⟨by first | rfl | (simp [errW_none, errW_some] <;> rfl) | (simp [*, errW_none, errW_some] <;> rfl), by repeat (first | (with_reducible first | exact HB.out | apply below_alloc | apply pw_below_drewN | apply below_drew1) | exact HB.out)⟩

end Go.Proofs.YtmopbhddebpgbaaDoor.QCoordT
