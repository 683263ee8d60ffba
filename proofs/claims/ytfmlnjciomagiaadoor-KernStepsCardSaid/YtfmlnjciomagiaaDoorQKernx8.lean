/- Functions of the program and of the references as plain Lean functions, and that each call answers what they say; conditions: each contract names its own. Written by a program of this session. -/
import Derived.Test.YtfmlnjciomagiaaDoorQKernx0
namespace Go.Proofs.YtfmlnjciomagiaaDoor.QKern
open Go.RowKit Go.Proofs.YtfmlnjciomagiaaDoorW.PrintWords Go.Proofs.YtfmlnjciomagiaaDoorW.PrintLast Go.Proofs.YtfmlnjciomagiaaDoorW.PrintMore
attribute [local go_sem] max2_int min2_int max_two min_two max_three min_three max_four min_four   -- for this text's walks alone
set_option linter.unusedVariables false
set_option linter.unusedSimpArgs false

/-! ### kern_put: function 27 -/
def kern_put.f (l0_0 : List Int) (l0_1 : List Int) (a1 : Int) (a2 : Int) (a3 : Int) : Option (List Int × List Int) :=
  if 0 ≤ a1 ∧ a1 < (l0_0.length : Int) ∧ a1 < (l0_1.length : Int) then some (l0_0.set a1.toNat (if a3 = 0 then a2 else 0), l0_1.set a1.toNat a3) else none
theorem kern_put.two {W : World} {base : Nat} {ok : Nat → Prop} {g g' c c' : Nat} {xs ys : List Int} (h0 : Kd.R (Kd.int .i64) 2 W base ok (.slice (some ⟨g, 0, none⟩) xs.length c) xs) (h1 : Kd.R (Kd.int .i64) 3 W base ok (.slice (some ⟨g', 0, none⟩) ys.length c') ys) (i : Int) (p : 0 ≤ i) (q : i < (xs.length : Int)) (q' : i < (ys.length : Int)) (x y : Int) :
    W.cell? ⟨g, i.toNat, none⟩ = some (.int .i64 (rdOf 0 xs i)) ∧ W.frozen? ⟨g, i.toNat, none⟩ = false ∧ (W.setCell ⟨g, i.toNat, none⟩ (.int .i64 x)).cell? ⟨g', i.toNat, none⟩ = some (.int .i64 (rdOf 0 ys i)) ∧ W.frozen? ⟨g', i.toNat, none⟩ = false ∧
    Kd.R (Kd.int .i64) 2 ((W.setCell ⟨g, i.toNat, none⟩ (.int .i64 x)).setCell ⟨g', i.toNat, none⟩ (.int .i64 y)) base ok (.slice (some ⟨g, 0, none⟩) xs.length c) (xs.set i.toNat x) ∧ Kd.R (Kd.int .i64) 3 ((W.setCell ⟨g, i.toNat, none⟩ (.int .i64 x)).setCell ⟨g', i.toNat, none⟩ (.int .i64 y)) base ok (.slice (some ⟨g', 0, none⟩) ys.length c') (ys.set i.toNat y) := by
  obtain ⟨a, b⟩ := Kd.R_celln 0 h0 i p q
  have hp := Kd.R_putg h0 i x
  have h1' := Kd.R_over' (v := (.slice (some ⟨g, 0, none⟩) xs.length c)) h1 (Kd.R_typed h0) (by decide) hp.2
  obtain ⟨a', b'⟩ := Kd.R_celln 0 h1' i p q'
  have hp' := Kd.R_putg h1' i y
  exact ⟨a, b, a', (Kd.R_celln 0 h1 i p q').2, Kd.R_over' (v := (.slice (some ⟨g', 0, none⟩) ys.length c')) hp.1 (Kd.R_typed h1') (by decide) hp'.2, hp'.1⟩
set_option maxHeartbeats 8000000 in
set_option maxRecDepth 100000 in
theorem kern_put.calls (P0_0_ : Nat → Prop) (u9000_ : Value) (l0_0 : List Int) (P0_1_ : Nat → Prop) (u9001_ : Value) (l0_1 : List Int) (a1 : Int) (a2 : Int) (a3 : Int) (r1 : List Int) (r2 : List Int) (w0 w : World) (hB : Below w0.heap.size w0 w) (ho0_0 : Kd.R (Kd.int .i64) 2 w w0.heap.size P0_0_ u9000_ l0_0) (ho0_1 : Kd.R (Kd.int .i64) 3 w w0.heap.size P0_1_ u9001_ l0_1) (h : kern_put.f l0_0 l0_1 a1 a2 a3 = some (r1, r2)) :
    Calls Tryd.prog 27 #[.agg #[u9000_, u9001_], .int .i64 a1, .int .i64 a2, .int .i64 a3] w fun e w' => e = .returned (.tuple #[]) ∧ Kd.R (Kd.int .i64) 2 w' w0.heap.size (fun k_ => ((P0_0_ k_ ∨ P0_1_ k_) ∨ w.heap.size ≤ k_)) u9000_ r1 ∧ Kd.R (Kd.int .i64) 3 w' w0.heap.size (fun k_ => ((P0_0_ k_ ∨ P0_1_ k_) ∨ w.heap.size ≤ k_)) u9001_ r2 ∧ Below w0.heap.size w0 w' ∧ Kept w w' (fun k_ => P0_0_ k_ ∨ P0_1_ k_) := by
  have HO0_0 := Aside0.mk (show Kd.R (Kd.int .i64) 2 w w0.heap.size (fun k_ => ((P0_0_ k_ ∨ P0_1_ k_) ∨ w.heap.size ≤ k_)) u9000_ l0_0 from Kd.R_mono ho0_0 (fun k_ hk => (.inl (.inl hk))))
  have HO0_1 := Aside0.mk (show Kd.R (Kd.int .i64) 3 w w0.heap.size (fun k_ => ((P0_0_ k_ ∨ P0_1_ k_) ∨ w.heap.size ≤ k_)) u9001_ l0_1 from Kd.R_mono ho0_1 (fun k_ hk => (.inl (.inr hk))))
  have HK := Aside0.mk (Kept.refl w (fun k_ => P0_0_ k_ ∨ P0_1_ k_))
  have HB := Aside0.mk hB
  clear hB ho0_0 ho0_1
  unfold kern_put.f at h
  split at h
  · rename_i hb
    obtain ⟨p1, p2, p3⟩ := hb
    have h2 := Option.some.inj h
    simp only [Prod.mk.injEq] at h2
    obtain ⟨rfl, rfl⟩ := h2
    clear h
    have c6b0 : decide (0 ≤ a1) = true := decide_eq_true p1
    have c7b0 : decide (a1 < (l0_0.length : Int)) = true := decide_eq_true p2
    have c9b0 : decide (a1 < (l0_1.length : Int)) = true := decide_eq_true p3
    by_cases c5 : a3 = 0
    · rw [if_pos c5]
      have c5b0 : (a3 == 0) = true := beq_iff_eq.mpr c5
      have c5b1 : (a3 != 0) = false := bne_eq_false_iff_eq.mpr c5
      clear c5
      obtain ⟨Ao11, co11, eo11⟩ := Kd.R_slice HO0_0.out
      subst eo11
      obtain ⟨Ao12, co12, eo12⟩ := Kd.R_slice HO0_1.out
      subst eo12
      obtain ⟨go8, co8, eo8, gb8, gl8, cl8, HG8⟩ := Kd.R_form HO0_0.out (by omega)
      first | cases eo8 | (injection eo8 with ea_ en_ ec_; (first | subst ea_ | (injection ea_ with ea_; subst ea_)); subst ec_; clear en_)
      obtain ⟨go10, co10, eo10, gb10, gl10, cl10, HG10⟩ := Kd.R_form HO0_1.out (by omega)
      first | cases eo10 | (injection eo10 with ea_ en_ ec_; (first | subst ea_ | (injection ea_ with ea_; subst ea_)); subst ec_; clear en_)
      have GB8 := Aside0.mk gb8
      have GB10 := Aside0.mk gb10
      have GL8 := Aside0.mk gl8
      have GL10 := Aside0.mk gl10
      have HP := Aside0.mk (show 0 ≤ a1 ∧ a1 < (l0_0.length : Int) ∧ a1 < (l0_1.length : Int) from ⟨by omega, by omega, by omega⟩)
      clear gb8 gb10 gl8 gl10 HG8 HG10
      go_enter Tryd.func27, Tryd.ntmps27
      go_wp2_with (first | ((with_reducible refine gate_dst (N := 4) rfl ?_); refine box_event ?hg (N := 4) ?hd (cs := #[.slice (some ⟨go8, 0, none⟩) l0_0.length co11, .slice (some ⟨go10, 0, none⟩) l0_1.length co12]) (t := 27) ?hr ?_; (case hd => rfl); (case hg => rfl); (case hr => first | (go_simp; done) | (go_simp; rfl)); intro gb hg w13 hbox hb; have GH := Aside0.mk hg; have GX := Aside0.mk hbox; have GB := Aside0.mk hb; clear hg hbox hb))
      have hb := GB.out
      have hbox := GX.out
      have n0_ := Aside0.mk (Kd.R_below HO0_0.out hb)
      have n1_ := Aside0.mk (Kd.R_below HO0_1.out hb)
      have n2_ := Aside0.mk (Kept.below (S := (fun k_ => P0_0_ k_ ∨ P0_1_ k_)) HK.out hb)
      have n3_ := Aside0.mk (below_step HB.out hb)
      have gn8 : gb ≠ go8 := by have := GL8.out; have := GH.out; omega
      have gn10 : gb ≠ go10 := by have := GL10.out; have := GH.out; omega
      clear HO0_0 HO0_1 HK HB
      obtain ⟨hx8, hf8, hx10, hf10, H⟩ := kern_put.two n0_.out n1_.out a1 HP.out.1 HP.out.2.1 HP.out.2.2 a2 a3
      have HH := Aside0.mk H
      have hcz0 : w13.drew.cell? ⟨gb, 0, none⟩ = some (.slice (some ⟨go8, 0, none⟩) l0_0.length co11) := (blk_cell hbox 0).trans rfl
      have hcz1 : w13.drew.cell? ⟨gb, 1, none⟩ = some (.slice (some ⟨go10, 0, none⟩) l0_1.length co12) := (blk_cell hbox 1).trans rfl
      clear H hb hbox
      refine start_ (n := 12) (S := fun w' => w'.cell? ⟨gb, 0, none⟩ = some (.slice (some ⟨go8, 0, none⟩) l0_0.length co11) ∧ w'.cell? ⟨gb, 1, none⟩ = some (.slice (some ⟨go10, 0, none⟩) l0_1.length co12)) (ds := []) #[false, false, false, false, false, false, false, false, false, false, false, false] (by kernel_rfl) rfl rfl ⟨hcz0, hcz1⟩ (fun hHeld => ?_)
      refine pure_ (i := 0) (N := some 10) (v := ?_) (a' := ?_) #[true, false, false, false, false, false, false, false, false, false, false, false] rfl rfl (by kernel_rfl) (fun _ _ _ h => h) (Or.inl ⟨by rfl, ?_⟩) ?_ ?_
      rotate_left
      · intro w'
        go_simp
        with_reducible rfl
      rotate_left
      · simp only [Act.put, List.setIfInBounds_toArray, List.set_cons_zero, List.set_cons_succ, i64_w, i32_w]
        rfl
      refine pure_ (i := 2) (N := some 12) (v := ?_) (a' := ?_) #[true, false, true, false, false, false, false, false, false, false, false, false] rfl rfl (by kernel_rfl) (fun _ _ _ h => h) (Or.inl ⟨by rfl, ?_⟩) ?_ ?_
      rotate_left
      · intro w'
        go_simp
        with_reducible rfl
      rotate_left
      · simp only [Act.put, List.setIfInBounds_toArray, List.set_cons_zero, List.set_cons_succ, i64_w, i32_w]
        rfl
      refine pure_ (i := 3) (N := some 13) (v := ?_) (a' := ?_) #[true, false, true, true, false, false, false, false, false, false, false, false] rfl rfl (by kernel_rfl) (fun _ _ _ h => h) (Or.inl ⟨by rfl, ?_⟩) ?_ ?_
      rotate_left
      · intro w'
        go_simp
        with_reducible rfl
      rotate_left
      · simp only [Act.put, List.setIfInBounds_toArray, List.set_cons_zero, List.set_cons_succ, i64_w, i32_w]
        rfl
      refine pure_ (i := 5) (N := some 15) (v := ?_) (a' := ?_) #[true, false, true, true, false, true, false, false, false, false, false, false] rfl rfl (by kernel_rfl) (fun _ _ _ h => h) (Or.inl ⟨by rfl, ?_⟩) ?_ ?_
      rotate_left
      · intro w'
        go_simp
        with_reducible rfl
      rotate_left
      · simp only [Act.put, List.setIfInBounds_toArray, List.set_cons_zero, List.set_cons_succ, i64_w, i32_w]
        rfl
      refine pure_ (i := 6) (N := some 16) (v := ?_) (a' := ?_) #[true, false, true, true, false, true, true, false, false, false, false, false] rfl rfl (by kernel_rfl) (fun _ _ _ h => h) (Or.inl ⟨by rfl, ?_⟩) ?_ ?_
      rotate_left
      · intro w'
        go_simp
        with_reducible rfl
      rotate_left
      · simp only [Act.put, List.setIfInBounds_toArray, List.set_cons_zero, List.set_cons_succ, i64_w, i32_w]
        rfl
      refine pure_ (i := 7) (N := some 17) (v := ?_) (a' := ?_) #[true, false, true, true, false, true, true, true, false, false, false, false] rfl rfl (by kernel_rfl) (fun _ _ _ h => h) (Or.inl ⟨by rfl, ?_⟩) ?_ ?_
      rotate_left
      · intro w'
        go_simp
        with_reducible rfl
      rotate_left
      · simp only [Act.put, List.setIfInBounds_toArray, List.set_cons_zero, List.set_cons_succ, i64_w, i32_w]
        rfl
      refine take_ (i := 1) (N := some 11) (v := ?_) (a' := ?_) #[true, true, true, true, false, true, true, true, false, false, false, false] rfl rfl (by kernel_rfl) (fun _ _ _ h => h) (Or.inl ⟨by rfl, ?_⟩) hHeld ?_ ?_
      rotate_left
      · rintro w' ⟨s0, s1⟩
        go_simp
        with_reducible rfl
      rotate_left
      · simp only [Act.put, List.setIfInBounds_toArray, List.set_cons_zero, List.set_cons_succ, i64_w, i32_w]
        rfl
      refine pure_ (i := 8) (N := some 18) (v := ?_) (a' := ?_) #[true, true, true, true, false, true, true, true, true, false, false, false] rfl rfl (by kernel_rfl) (fun _ _ _ h => h) (Or.inl ⟨by rfl, ?_⟩) ?_ ?_
      rotate_left
      · intro w'
        go_simp
        with_reducible rfl
      rotate_left
      · simp only [Act.put, List.setIfInBounds_toArray, List.set_cons_zero, List.set_cons_succ, i64_w, i32_w]
        rfl
      refine take_ (i := 4) (N := some 14) (v := ?_) (a' := ?_) #[true, true, true, true, true, true, true, true, true, false, false, false] rfl rfl (by kernel_rfl) (fun _ _ _ h => h) (Or.inl ⟨by rfl, ?_⟩) hHeld ?_ ?_
      rotate_left
      · rintro w' ⟨s0, s1⟩
        go_simp
        with_reducible rfl
      rotate_left
      · simp only [Act.put, List.setIfInBounds_toArray, List.set_cons_zero, List.set_cons_succ, i64_w, i32_w]
        rfl
      refine one_ (i := 9) (N := none) #[true, true, true, true, true, true, true, true, true, true, false, false] rfl rfl (by kernel_rfl) (by decide) (fun K hK => ?_)
      refine skip_ (w1 := ?_) (by rfl) rfl ?_ ?_
      rotate_left
      · go_simp
        rfl
      refine hK.out _ _ ⟨((cell_far (p := ⟨go8, _, none⟩) gn8 _).trans hHeld.1), ((cell_far (p := ⟨go8, _, none⟩) gn8 _).trans hHeld.2)⟩ (fun hHeld => ?_)
      clear hK K
      refine pure_ (i := 10) (N := some 19) (v := ?_) (a' := ?_) #[true, true, true, true, true, true, true, true, true, true, true, false] rfl rfl (by kernel_rfl) (fun _ _ _ h => h) (Or.inl ⟨by rfl, ?_⟩) ?_ ?_
      rotate_left
      · intro w'
        go_simp
        with_reducible rfl
      rotate_left
      · simp only [Act.put, List.setIfInBounds_toArray, List.set_cons_zero, List.set_cons_succ, i64_w, i32_w]
        rfl
      refine one_ (i := 11) (N := none) #[true, true, true, true, true, true, true, true, true, true, true, true] rfl rfl (by kernel_rfl) (by decide) (fun K hK => ?_)
      refine skip_ (w1 := ?_) (by rfl) rfl ?_ ?_
      rotate_left
      · go_simp
        rfl
      refine hK.out _ _ ⟨((cell_far (p := ⟨go10, _, none⟩) gn10 _).trans hHeld.1), ((cell_far (p := ⟨go10, _, none⟩) gn10 _).trans hHeld.2)⟩ (fun hHeld => ?_)
      clear hK K
      refine done_ (by kernel_rfl) ?_
      first | go_end0 | ((try simp only [Exit.inBlock, Exit.then]); refine bodyPost_ret (results_none rfl _ _ _) rfl ?_)
      have e1 : (P0_0_ go8 ∨ P0_1_ go8) ∨ w.heap.size ≤ go8 := n0_.out.1 go8 rfl
      have e2 : (P0_0_ go10 ∨ P0_1_ go10) ∨ w.heap.size ≤ go10 := n1_.out.1 go10 rfl
      refine ⟨rfl, ?_, ?_, ?_, ?_⟩
      · exact Kd.R_drew HH.out.1
      · exact Kd.R_drew HH.out.2
      · refine below_drew1 (below_set (below_set n3_.out ?_) ?_)
        · exact GB8.out
        · exact GB10.out
      · refine Kept.drew (Kept.setCell (Kept.setCell n2_.out ?_ _) ?_ _)
        · exact e1
        · exact e2
    · rw [if_neg c5]
      have c5b0 : (a3 == 0) = false := beq_eq_false_iff_ne.mpr c5
      have c5b1 : (a3 != 0) = true := bne_iff_ne.mpr c5
      clear c5
      obtain ⟨Ao11, co11, eo11⟩ := Kd.R_slice HO0_0.out
      subst eo11
      obtain ⟨Ao12, co12, eo12⟩ := Kd.R_slice HO0_1.out
      subst eo12
      obtain ⟨go8, co8, eo8, gb8, gl8, cl8, HG8⟩ := Kd.R_form HO0_0.out (by omega)
      first | cases eo8 | (injection eo8 with ea_ en_ ec_; (first | subst ea_ | (injection ea_ with ea_; subst ea_)); subst ec_; clear en_)
      obtain ⟨go10, co10, eo10, gb10, gl10, cl10, HG10⟩ := Kd.R_form HO0_1.out (by omega)
      first | cases eo10 | (injection eo10 with ea_ en_ ec_; (first | subst ea_ | (injection ea_ with ea_; subst ea_)); subst ec_; clear en_)
      have GB8 := Aside0.mk gb8
      have GB10 := Aside0.mk gb10
      have GL8 := Aside0.mk gl8
      have GL10 := Aside0.mk gl10
      have HP := Aside0.mk (show 0 ≤ a1 ∧ a1 < (l0_0.length : Int) ∧ a1 < (l0_1.length : Int) from ⟨by omega, by omega, by omega⟩)
      clear gb8 gb10 gl8 gl10 HG8 HG10
      go_enter Tryd.func27, Tryd.ntmps27
      go_wp2_with (first | ((with_reducible refine gate_dst (N := 4) rfl ?_); refine box_event ?hg (N := 4) ?hd (cs := #[.slice (some ⟨go8, 0, none⟩) l0_0.length co11, .slice (some ⟨go10, 0, none⟩) l0_1.length co12]) (t := 27) ?hr ?_; (case hd => rfl); (case hg => rfl); (case hr => first | (go_simp; done) | (go_simp; rfl)); intro gb hg w13 hbox hb; have GH := Aside0.mk hg; have GX := Aside0.mk hbox; have GB := Aside0.mk hb; clear hg hbox hb))
      have hb := GB.out
      have hbox := GX.out
      have n0_ := Aside0.mk (Kd.R_below HO0_0.out hb)
      have n1_ := Aside0.mk (Kd.R_below HO0_1.out hb)
      have n2_ := Aside0.mk (Kept.below (S := (fun k_ => P0_0_ k_ ∨ P0_1_ k_)) HK.out hb)
      have n3_ := Aside0.mk (below_step HB.out hb)
      have gn8 : gb ≠ go8 := by have := GL8.out; have := GH.out; omega
      have gn10 : gb ≠ go10 := by have := GL10.out; have := GH.out; omega
      clear HO0_0 HO0_1 HK HB
      obtain ⟨hx8, hf8, hx10, hf10, H⟩ := kern_put.two n0_.out n1_.out a1 HP.out.1 HP.out.2.1 HP.out.2.2 0 a3
      have HH := Aside0.mk H
      have hcz0 : w13.drew.cell? ⟨gb, 0, none⟩ = some (.slice (some ⟨go8, 0, none⟩) l0_0.length co11) := (blk_cell hbox 0).trans rfl
      have hcz1 : w13.drew.cell? ⟨gb, 1, none⟩ = some (.slice (some ⟨go10, 0, none⟩) l0_1.length co12) := (blk_cell hbox 1).trans rfl
      clear H hb hbox
      refine start_ (n := 12) (S := fun w' => w'.cell? ⟨gb, 0, none⟩ = some (.slice (some ⟨go8, 0, none⟩) l0_0.length co11) ∧ w'.cell? ⟨gb, 1, none⟩ = some (.slice (some ⟨go10, 0, none⟩) l0_1.length co12)) (ds := []) #[false, false, false, false, false, false, false, false, false, false, false, false] (by kernel_rfl) rfl rfl ⟨hcz0, hcz1⟩ (fun hHeld => ?_)
      refine pure_ (i := 0) (N := some 10) (v := ?_) (a' := ?_) #[true, false, false, false, false, false, false, false, false, false, false, false] rfl rfl (by kernel_rfl) (fun _ _ _ h => h) (Or.inl ⟨by rfl, ?_⟩) ?_ ?_
      rotate_left
      · intro w'
        go_simp
        with_reducible rfl
      rotate_left
      · simp only [Act.put, List.setIfInBounds_toArray, List.set_cons_zero, List.set_cons_succ, i64_w, i32_w]
        rfl
      refine pure_ (i := 2) (N := some 12) (v := ?_) (a' := ?_) #[true, false, true, false, false, false, false, false, false, false, false, false] rfl rfl (by kernel_rfl) (fun _ _ _ h => h) (Or.inl ⟨by rfl, ?_⟩) ?_ ?_
      rotate_left
      · intro w'
        go_simp
        with_reducible rfl
      rotate_left
      · simp only [Act.put, List.setIfInBounds_toArray, List.set_cons_zero, List.set_cons_succ, i64_w, i32_w]
        rfl
      refine pure_ (i := 3) (N := some 13) (v := ?_) (a' := ?_) #[true, false, true, true, false, false, false, false, false, false, false, false] rfl rfl (by kernel_rfl) (fun _ _ _ h => h) (Or.inl ⟨by rfl, ?_⟩) ?_ ?_
      rotate_left
      · intro w'
        go_simp
        with_reducible rfl
      rotate_left
      · simp only [Act.put, List.setIfInBounds_toArray, List.set_cons_zero, List.set_cons_succ, i64_w, i32_w]
        rfl
      refine pure_ (i := 5) (N := some 15) (v := ?_) (a' := ?_) #[true, false, true, true, false, true, false, false, false, false, false, false] rfl rfl (by kernel_rfl) (fun _ _ _ h => h) (Or.inl ⟨by rfl, ?_⟩) ?_ ?_
      rotate_left
      · intro w'
        go_simp
        with_reducible rfl
      rotate_left
      · simp only [Act.put, List.setIfInBounds_toArray, List.set_cons_zero, List.set_cons_succ, i64_w, i32_w]
        rfl
      refine pure_ (i := 6) (N := some 16) (v := ?_) (a' := ?_) #[true, false, true, true, false, true, true, false, false, false, false, false] rfl rfl (by kernel_rfl) (fun _ _ _ h => h) (Or.inl ⟨by rfl, ?_⟩) ?_ ?_
      rotate_left
      · intro w'
        go_simp
        with_reducible rfl
      rotate_left
      · simp only [Act.put, List.setIfInBounds_toArray, List.set_cons_zero, List.set_cons_succ, i64_w, i32_w]
        rfl
      refine pure_ (i := 7) (N := some 17) (v := ?_) (a' := ?_) #[true, false, true, true, false, true, true, true, false, false, false, false] rfl rfl (by kernel_rfl) (fun _ _ _ h => h) (Or.inl ⟨by rfl, ?_⟩) ?_ ?_
      rotate_left
      · intro w'
        go_simp
        with_reducible rfl
      rotate_left
      · simp only [Act.put, List.setIfInBounds_toArray, List.set_cons_zero, List.set_cons_succ, i64_w, i32_w]
        rfl
      refine take_ (i := 1) (N := some 11) (v := ?_) (a' := ?_) #[true, true, true, true, false, true, true, true, false, false, false, false] rfl rfl (by kernel_rfl) (fun _ _ _ h => h) (Or.inl ⟨by rfl, ?_⟩) hHeld ?_ ?_
      rotate_left
      · rintro w' ⟨s0, s1⟩
        go_simp
        with_reducible rfl
      rotate_left
      · simp only [Act.put, List.setIfInBounds_toArray, List.set_cons_zero, List.set_cons_succ, i64_w, i32_w]
        rfl
      refine pure_ (i := 8) (N := some 18) (v := ?_) (a' := ?_) #[true, true, true, true, false, true, true, true, true, false, false, false] rfl rfl (by kernel_rfl) (fun _ _ _ h => h) (Or.inl ⟨by rfl, ?_⟩) ?_ ?_
      rotate_left
      · intro w'
        go_simp
        with_reducible rfl
      rotate_left
      · simp only [Act.put, List.setIfInBounds_toArray, List.set_cons_zero, List.set_cons_succ, i64_w, i32_w]
        rfl
      refine take_ (i := 4) (N := some 14) (v := ?_) (a' := ?_) #[true, true, true, true, true, true, true, true, true, false, false, false] rfl rfl (by kernel_rfl) (fun _ _ _ h => h) (Or.inl ⟨by rfl, ?_⟩) hHeld ?_ ?_
      rotate_left
      · rintro w' ⟨s0, s1⟩
        go_simp
        with_reducible rfl
      rotate_left
      · simp only [Act.put, List.setIfInBounds_toArray, List.set_cons_zero, List.set_cons_succ, i64_w, i32_w]
        rfl
      refine one_ (i := 9) (N := none) #[true, true, true, true, true, true, true, true, true, true, false, false] rfl rfl (by kernel_rfl) (by decide) (fun K hK => ?_)
      refine skip_ (w1 := ?_) (by rfl) rfl ?_ ?_
      rotate_left
      · go_simp
        rfl
      refine hK.out _ _ ⟨((cell_far (p := ⟨go8, _, none⟩) gn8 _).trans hHeld.1), ((cell_far (p := ⟨go8, _, none⟩) gn8 _).trans hHeld.2)⟩ (fun hHeld => ?_)
      clear hK K
      refine pure_ (i := 10) (N := some 19) (v := ?_) (a' := ?_) #[true, true, true, true, true, true, true, true, true, true, true, false] rfl rfl (by kernel_rfl) (fun _ _ _ h => h) (Or.inl ⟨by rfl, ?_⟩) ?_ ?_
      rotate_left
      · intro w'
        go_simp
        with_reducible rfl
      rotate_left
      · simp only [Act.put, List.setIfInBounds_toArray, List.set_cons_zero, List.set_cons_succ, i64_w, i32_w]
        rfl
      refine one_ (i := 11) (N := none) #[true, true, true, true, true, true, true, true, true, true, true, true] rfl rfl (by kernel_rfl) (by decide) (fun K hK => ?_)
      refine skip_ (w1 := ?_) (by rfl) rfl ?_ ?_
      rotate_left
      · go_simp
        rfl
      refine hK.out _ _ ⟨((cell_far (p := ⟨go10, _, none⟩) gn10 _).trans hHeld.1), ((cell_far (p := ⟨go10, _, none⟩) gn10 _).trans hHeld.2)⟩ (fun hHeld => ?_)
      clear hK K
      refine done_ (by kernel_rfl) ?_
      first | go_end0 | ((try simp only [Exit.inBlock, Exit.then]); refine bodyPost_ret (results_none rfl _ _ _) rfl ?_)
      have e1 : (P0_0_ go8 ∨ P0_1_ go8) ∨ w.heap.size ≤ go8 := n0_.out.1 go8 rfl
      have e2 : (P0_0_ go10 ∨ P0_1_ go10) ∨ w.heap.size ≤ go10 := n1_.out.1 go10 rfl
      refine ⟨rfl, ?_, ?_, ?_, ?_⟩
      · exact Kd.R_drew HH.out.1
      · exact Kd.R_drew HH.out.2
      · refine below_drew1 (below_set (below_set n3_.out ?_) ?_)
        · exact GB8.out
        · exact GB10.out
      · refine Kept.drew (Kept.setCell (Kept.setCell n2_.out ?_ _) ?_ _)
        · exact e1
        · exact e2
  · simp at h

end Go.Proofs.YtfmlnjciomagiaaDoor.QKern
