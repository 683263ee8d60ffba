/- Functions of the program and of the references as plain Lean functions, and that each call answers what they say; conditions: each contract names its own. Written by a program of this session. -/
import Derived.Test.YtmopbhddebpgbaaDoorQCoordTx0
import Derived.Test.YtmopbhddebpgbaaDoorQCoordTx7
import Derived.Test.YtmopbhddebpgbaaDoorQCoordTx9
namespace Go.Proofs.YtmopbhddebpgbaaDoor.QCoordT
open Go.RowKit Go.Proofs.YtmopbhddebpgbaaDoorW.PrintWords Go.Proofs.YtmopbhddebpgbaaDoorW.PrintLast Go.Proofs.YtmopbhddebpgbaaDoorW.PrintMore
attribute [local go_sem] max2_int min2_int max_two min_two max_three min_three max_four min_four   -- for this text's walks alone
set_option linter.unusedVariables false
set_option linter.unusedSimpArgs false

/-! ### num_Digits: function 35 -/
def num_Digits.f (a0 : Int) : Option ByteArray := if -9223372036854775808 ≤ a0 ∧ a0 ≤ 9223372036854775807 then some ⟨(Lib.itoa a0).toArray⟩ else none
set_option maxHeartbeats 400000 in
theorem num_Digits.calls (a0 : Int) (r : ByteArray) (w : World) (hG : Glb w) (h : num_Digits.f a0 = some r) :
    Calls Tryd.prog 35 #[.int .i64 a0] w fun e w' => e = .returned (.string r) ∧ Below w.heap.size w w' := by
  unfold num_Digits.f at h
  split at h
  · rename_i hb
    obtain rfl := Option.some.inj h
    have hC := Tryd.strconv_Itoa a0 hb.1 hb.2 w hG.tab10
    clear h hG
    go_enter Tryd.func35, Tryd.ntmps35
    go_wp2_with (go_at_call 43; refine hC.mono ?_; rintro e w' ⟨rfl, k, os, rfl⟩)
    go_ret
    exact ⟨rfl, below_grown w k os⟩
  · simp at h

/-! ### coord_Print: function 11 -/
def coord_Print.In (a b : Int) : Prop := 1 ≤ a ∧ a ≤ 1000 ∧ 1 ≤ b ∧ b ≤ 52
instance coord_Print.decIn (a b : Int) : Decidable (coord_Print.In a b) := by unfold coord_Print.In; infer_instance
def coord_Print.f (k : Nat) (a0_0 : Int) (a0_1 : Int) (a0_2 : Bool) (a0_3 : Bool) : Option ByteArray :=
  if coord_Print.In a0_0 a0_1 then (coord_colName.f k a0_1).bind fun s => (num_Digits.f a0_0).bind fun d => if s.size ≤ 1000 then (if d.size ≤ 1000 then some (((if a0_3 = true then (⟨#[36]⟩ : ByteArray) ++ s else s) ++ (if a0_2 = true then (⟨#[36]⟩ : ByteArray) else ⟨#[]⟩)) ++ d) else none) else none
  else some ⟨#[]⟩
theorem coord_Print.mono : ∀ a0 a1 a2 a3 k, LeO (coord_Print.f k a0 a1 a2 a3) (coord_Print.f (k + 1) a0 a1 a2 a3) := by
  intro a0 a1 a2 a3 k
  unfold coord_Print.f
  refine LeO.ite ?_ (LeO.refl _)
  exact LeO.bind (coord_colName.mono _ _) (fun _ => LeO.refl _)
theorem coord_Print.inP (a b : Int) (w : World) : Calls Tryd.prog 33 #[.int .i64 a, .int .i64 b] w fun e w' => e = .returned (.bool (decide (coord_Print.In a b))) ∧ w' = w := by
  unfold coord_Print.In
  by_cases h1 : 1 ≤ a <;> by_cases h2 : a ≤ 1000 <;> by_cases h3 : 1 ≤ b <;> by_cases h4 : b ≤ 52
  all_goals
    go_enter Tryd.func33, Tryd.ntmps33
    go_wp2
    all_goals first | (exfalso; omega) | (go_ret; exact ⟨by simp [h1, h2, h3, h4], rfl⟩)
theorem coord_Print.retS {a b : ByteArray} (h : a = b) : Ending.returned (.string a) = .returned (.string b) := by rw [h]
theorem coord_Print.app_nil (s : ByteArray) : s ++ (⟨#[]⟩ : ByteArray) = s := by
  rcases s with ⟨⟨l⟩⟩
  simp [ByteArray.ext_iff]
set_option maxHeartbeats 2000000 in
theorem coord_Print.calls (k : Nat) (a0_0 : Int) (a0_1 : Int) (a0_2 : Bool) (a0_3 : Bool) (r : ByteArray) (w : World) (hG : Glb w) (h : coord_Print.f k a0_0 a0_1 a0_2 a0_3 = some r) :
    Calls Tryd.prog 11 #[.agg #[.int .i64 a0_0, .int .i64 a0_1, .bool a0_2, .bool a0_3]] w fun e w' => e = .returned (.string r) ∧ Below w.heap.size w w' := by
  unfold coord_Print.f at h
  by_cases hin : coord_Print.In a0_0 a0_1
  · rw [if_pos hin] at h
    obtain ⟨s, hs, h⟩ := Option.bind_eq_some_iff.mp h
    obtain ⟨d, hd, h⟩ := Option.bind_eq_some_iff.mp h
    by_cases h1 : s.size ≤ 1000
    · rw [if_pos h1] at h
      by_cases h2 : d.size ≤ 1000
      · rw [if_pos h2] at h
        have H := Lib.hid (Option.some.inj h)
        have d1 : decide (coord_Print.In a0_0 a0_1) = true := decide_eq_true hin
        have cS := fun (W : World) => coord_colName.calls k a0_1 s W hs
        have cD := fun (W : World) (hb : Below w.heap.size w W) => num_Digits.calls a0_0 d W (hG.below hb) hd
        have hu := Tryd.underlying23
        clear h hin hs hd hG
        cases a0_2 <;> cases a0_3
        all_goals
          go_enter Tryd.func11, Tryd.ntmps11
          go_wp2_with (first
            | (go_at_call 33; refine (coord_Print.inP _ _ _).mono ?_; rintro e w' ⟨rfl, rfl⟩)
            | (go_at_call 34; refine (cS _).mono ?_; rintro e w1 ⟨rfl, hb1⟩; obtain ⟨hc1, hf1⟩ := bcell hb1; have hz1 : w.heap.size < w1.heap.size := by have := hb1.size; simp at this; omega)
            | (go_at_call 35; refine (cD _ (Below.trans ((Below.refl _ _).alloc (Nat.le_refl _) _) (hb1.mono (by simp)))).mono ?_; rintro e w2 ⟨rfl, hb2⟩))
          go_ret
          have hB1 : Below w.heap.size w w1 := Below.trans ((Below.refl _ _).alloc (Nat.le_refl _) _) (hb1.mono (by simp))
          exact ⟨coord_Print.retS (by rw [← H.out]; simp [coord_Print.app_nil]), hB1.trans (hb2.mono hB1.size)⟩
      · rw [if_neg h2] at h; exact absurd h (by simp)
    · rw [if_neg h1] at h; exact absurd h (by simp)
  · rw [if_neg hin] at h
    obtain rfl := Option.some.inj h
    have d1 : decide (coord_Print.In a0_0 a0_1) = false := decide_eq_false hin
    have hu := Tryd.underlying23
    clear h hin hG
    go_enter Tryd.func11, Tryd.ntmps11
    go_wp2_with (go_at_call 33; refine (coord_Print.inP _ _ _).mono ?_; rintro e w' ⟨rfl, rfl⟩)
    go_ret
    exact ⟨rfl, (Below.refl _ _).alloc (Nat.le_refl _) _⟩

/-! ### coord_In: function 15 -/
def coord_In.f (a0 : Int) (a1 : Int) : Option (Bool) := (coord_in.f a0 a1).bind fun t120 => (some t120)
set_option maxHeartbeats 8000000 in
set_option maxRecDepth 100000 in
theorem coord_In.calls (a0 : Int) (a1 : Int) (r : Bool) (w : World) (h : coord_In.f a0 a1 = some r) :
    Calls Tryd.prog 15 #[.int .i64 a0, .int .i64 a1] w fun e w' => e = .returned (.bool r) ∧ Drawn0 w w' := by
  have H : ((coord_in.f a0 a1).bind fun t120 => (some t120)) = some r := h
  clear h
  replace H := Option.bind_eq_some_iff.mp H
  obtain ⟨t120, A30, H⟩ := H
  replace H : (some t120) = some r := H
  have A3 := Aside0.mk A30
  clear A30
  obtain rfl := Option.some.inj H
  go_enter Tryd.func15, Tryd.ntmps15
  go_wp2_with (first | ((with_reducible refine gate_callee (f := 33) rfl ?_); refine goesL_ (some 7) rfl rfl Tryd.func33 (by kernel_rfl) rfl #[.int .i64 a0, .int .i64 a1] rfl (by (try simp only [List.map_toArray, List.map_cons, List.map_nil]); first | done | rfl | (simp only [List.length_drop, List.length_take]; rfl)) ?_; (with_reducible refine (coord_in.calls a0 a1 t120 _ A3.out).mono ?_); rintro e w' ⟨rfl, ⟨nd, rfl⟩⟩; refine ⟨_, rfl, ?_⟩))
  go_ret
  exact ⟨by first | rfl | (simp; done) | (simp [*]; done), by repeat (first | exact Drawn0.refl _ | apply Drawn0.step)⟩

end Go.Proofs.YtmopbhddebpgbaaDoor.QCoordT
