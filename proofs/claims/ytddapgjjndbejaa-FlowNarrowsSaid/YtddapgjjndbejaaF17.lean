/-
  Contracts of functions of the program: each by symbolic execution of its text.
-/
import Derived.Test.YtddapgjjndbejaaF16
import Derived.Test.YtddapgjjndbejaaVkFlowNet
import Derived.Test.YtddapgjjndbejaaVkForget
namespace Go.Proofs
open Go Go.Vk Go.Vk.Flow

theorem take_same {a b : List Int} {i : Nat} {x y : Int} (hx : a[i]? = some x) (hy : b[i]? = some y) (e : x = y) (h : a.take i = b.take i) : a.take (i + 1) = b.take (i + 1) := by
  rw [List.take_add_one, List.take_add_one, hx, hy, h, e]

/-- couchant/couchantref06.SameInts. -/
theorem c_SameInts (va : Value) (a : List Int) (vb : Value) (b : List Int) (hm : a.length ≤ 9223372036854775807) (w : World) (Ha : Rd EI w va a) (Hb : Rd EI w vb b) :
    Cl Try.prog 29 #[va, vb] w fun v w' => v = .bool (decide (a = b)) ∧ Le w w' := by
  refine fn_of_run (args := [_, _]) 26 Try.func29 rfl rfl rfl fun cs => ?_
  have S := Own.start (X := nob) w
  refine r_seq ?_
  refine r_region ?_
  refine l_x rfl (x_as rfl) ?_
  refine l_nil ?_
  refine r_seq ?_
  refine r_seq ?_
  refine r_region ?_
  refine l_x rfl (x_mv rfl) ?_
  refine l_x rfl (x_len (Ha.le S.le) rfl Try.runUnderlying25) ?_
  refine l_x rfl (x_mv rfl) ?_
  refine l_x rfl (x_len (Hb.le S.le) rfl Try.runUnderlying25) ?_
  refine l_x rfl (x_neq rfl rfl) ?_
  refine l_nil ?_
  refine r_ifd rfl (fun hc10 => ?_) (fun hc10 => ?_)
  · skip
    refine r_seq ?_
    refine r_region ?_
    refine l_x rfl (x_as rfl) ?_
    refine l_nil ?_
    refine r_ret (rs := [.tmp 4]) [_] Try.func29 rfl ⟨rfl, trivial⟩ ?_
    exact ⟨congrArg Value.bool (decide_eq_false (fun h => by subst h; omega)).symm, S.le⟩
  · skip
    have hab : a.length = b.length := by omega
    refine r_skip ?_
    refine r_seq ?_
    refine r_seq ?_
    refine r_region ?_
    refine l_x rfl (x_as rfl) ?_
    refine l_nil ?_
    refine r_block ?_
    refine r_loop (G := Nat) (fun i => a.length - i) (fun i => [(0, va), (1, vb), (5, .int .i64 i)]) (fun i w' => (i ≤ a.length) ∧ (a.take i = b.take i) ∧ Own nob w w' []) 0 ⟨rfl, rfl, rfl, trivial⟩ ⟨Nat.zero_le _, by simp, S⟩ ?_
    rintro i ρ w1 ⟨hi, hs, S1⟩ IH
    refine r_seq ?_
    refine r_seq ?_
    refine r_region ?_
    refine l_x rfl (x_mv rfl) ?_
    refine l_x rfl (x_mv rfl) ?_
    refine l_x rfl (x_len (Ha.le S1.le) rfl Try.runUnderlying25) ?_
    refine l_x rfl (x_lss rfl rfl) ?_
    refine l_nil ?_
    refine r_ifd rfl (fun hc14 => ?_) (fun hc14 => ?_)
    · skip
      obtain ⟨x, hx⟩ : ∃ x, a[i]? = some x := ⟨_, List.getElem?_eq_getElem (by omega)⟩
      obtain ⟨y, hy⟩ : ∃ y, b[i]? = some y := ⟨_, List.getElem?_eq_getElem (by omega)⟩
      refine r_skip ?_
      refine r_seq ?_
      refine r_block ?_
      refine r_seq ?_
      refine r_drawR 9 Try.mixed (by kernel_rfl) ?_
      refine w_x rfl (fun w1 h1 => x_mv rfl) ?_
      refine w_x rfl (fun w1 h1 => x_mv rfl) ?_
      refine w_index EI rfl (Ha.le S1.le) rfl rfl Try.runUnderlying25 Try.sizeOf3 (by omega) (by first | assumption | exact List.getElem?_eq_getElem (by omega)) ?_
      intro b1 o2 hat3 row4
      refine w_x rfl (fun w1 h1 => x_load rfl (ld_cell Try.isAgg3 ((row4.le h1) 0 _ rfl))) ?_
      refine w_x rfl (fun w1 h1 => x_mv rfl) ?_
      refine w_x rfl (fun w1 h1 => x_mv rfl) ?_
      refine w_index EI rfl (Hb.le S1.le) rfl rfl Try.runUnderlying25 Try.sizeOf3 (by omega) (by first | assumption | exact List.getElem?_eq_getElem (by omega)) ?_
      intro b5 o6 hat7 row8
      refine w_x rfl (fun w1 h1 => x_load rfl (ld_cell Try.isAgg3 ((row8.le h1) 0 _ rfl))) ?_
      refine w_x rfl (fun w1 h1 => x_neq rfl rfl) ?_
      refine w_nil ?_
      intro w9 hl10
      have S11 := S1.step hl10
      refine l_nil ?_
      refine r_ifd rfl (fun hc25 => ?_) (fun hc25 => ?_)
      · skip
        refine r_seq ?_
        refine r_region ?_
        refine l_x rfl (x_as rfl) ?_
        refine l_nil ?_
        refine r_ret (rs := [.tmp 4]) [_] Try.func29 rfl ⟨rfl, trivial⟩ ?_
        exact ⟨congrArg Value.bool (decide_eq_false (fun h => by subst h; rw [hx] at hy; exact hc25 (Option.some.inj hy))).symm, S11.le⟩
      · skip
        have hc25 : x = y := Decidable.not_not.1 hc25
        refine r_skip ?_
        refine r_inBlock ?_
        refine r_region ?_
        refine l_x rfl (x_mv rfl) ?_
        refine l_x rfl (x_add rfl rfl (by omega)) ?_
        refine l_x rfl (x_as rfl) ?_
        refine l_nil ?_
        exact IH (i + 1) _ _ (by omega) ⟨rfl, rfl, rfl, trivial⟩ ⟨by omega, take_same hx hy hc25 hs, S11⟩
    · skip
      have hie : i = a.length := by omega
      subst hie
      refine r_exit rfl ?_
      refine r_seq ?_
      refine r_region ?_
      refine l_x rfl (x_as rfl) ?_
      refine l_nil ?_
      refine r_ret (rs := [.tmp 4]) [_] Try.func29 rfl ⟨rfl, trivial⟩ ?_
      exact ⟨congrArg Value.bool (decide_eq_true (by rw [List.take_length] at hs; rw [hs, hab, List.take_length])).symm, S1.le⟩

/-- couchant/couchantlaw06.network. -/
theorem c_network  (w : World) :
    Cl Try.prog 61 #[] w fun v w' => ∃ vn, v = .agg #[.int .i64 3, vn] ∧ New w w' (vec EA vn netA) ∧ Le w w' := by
  refine fn_of_run (args := []) 7 Try.func61 rfl rfl rfl fun cs => ?_
  have S := Own.start (X := nob) w
  refine r_seq ?_
  refine r_region ?_
  refine l_alloc S rfl Try.zeroValue24 rfl ?_
  intro b4 w1 S2 hl3
  refine l_nil ?_
  refine r_seq ?_
  refine r_region ?_
  refine l_x rfl (x_buildS (out := [_, _, _, _, _, _]) (ss := [1, 1, 1, 1, 1, 1]) Try.zeroValue39 rfl Try.runUnderlying39 ⟨Try.sizeOf3, Try.sizeOf3, Try.sizeOf3, Try.sizeOf3, Try.sizeOf3, Try.sizeOf3, trivial⟩ (fill_cons rfl rfl rfl (Nat.le_of_ble_eq_true rfl) (fill_cons rfl rfl rfl (Nat.le_of_ble_eq_true rfl) (fill_cons rfl rfl rfl (Nat.le_of_ble_eq_true rfl) (fill_cons rfl rfl rfl (Nat.le_of_ble_eq_true rfl) (fill_cons rfl rfl rfl (Nat.le_of_ble_eq_true rfl) (fill_cons rfl rfl rfl (Nat.le_of_ble_eq_true rfl) fill_nil))))))) ?_
  refine l_x rfl (x_buildS (out := [_, _, _, _, _, _]) (ss := [1, 1, 1, 1, 1, 1]) Try.zeroValue39 rfl Try.runUnderlying39 ⟨Try.sizeOf3, Try.sizeOf3, Try.sizeOf3, Try.sizeOf3, Try.sizeOf3, Try.sizeOf3, trivial⟩ (fill_cons rfl rfl rfl (Nat.le_of_ble_eq_true rfl) (fill_cons rfl rfl rfl (Nat.le_of_ble_eq_true rfl) (fill_cons rfl rfl rfl (Nat.le_of_ble_eq_true rfl) (fill_cons rfl rfl rfl (Nat.le_of_ble_eq_true rfl) fill_nil))))) ?_
  refine l_x rfl (x_buildS (out := [_, _, _, _, _, _]) (ss := [1, 1, 1, 1, 1, 1]) Try.zeroValue39 rfl Try.runUnderlying39 ⟨Try.sizeOf3, Try.sizeOf3, Try.sizeOf3, Try.sizeOf3, Try.sizeOf3, Try.sizeOf3, trivial⟩ (fill_cons rfl rfl rfl (Nat.le_of_ble_eq_true rfl) (fill_cons rfl rfl rfl (Nat.le_of_ble_eq_true rfl) (fill_cons rfl rfl rfl (Nat.le_of_ble_eq_true rfl) fill_nil)))) ?_
  refine l_x rfl (x_buildS (out := [_, _, _, _, _, _]) (ss := [1, 1, 1, 1, 1, 1]) Try.zeroValue39 rfl Try.runUnderlying39 ⟨Try.sizeOf3, Try.sizeOf3, Try.sizeOf3, Try.sizeOf3, Try.sizeOf3, Try.sizeOf3, trivial⟩ (fill_cons rfl rfl rfl (Nat.le_of_ble_eq_true rfl) (fill_cons rfl rfl rfl (Nat.le_of_ble_eq_true rfl) (fill_cons rfl rfl rfl (Nat.le_of_ble_eq_true rfl) (fill_cons rfl rfl rfl (Nat.le_of_ble_eq_true rfl) fill_nil))))) ?_
  refine l_buildSlice EA netA S2 rfl Try.runUnderlying22 Try.sizeOf39 Try.zeroValue39 rfl ⟨rfl, rfl, rfl, rfl, rfl, rfl, rfl, rfl, trivial⟩ (Nat.le_of_ble_eq_true rfl) ?_
  intro v8 w5 S6 hl7
  refine l_x rfl (x_buildS (out := [_, _]) (ss := [1, 1]) Try.zeroValue24 rfl Try.runUnderlying24 ⟨Try.sizeOf3, Try.sizeOf22, trivial⟩ (fill_cons rfl rfl rfl (Nat.le_of_ble_eq_true rfl) (fill_cons rfl (Rd.cells (vec_rd (S6.at 1 rfl))) rfl (Nat.le_of_ble_eq_true rfl) fill_nil))) ?_
  refine l_stores (vs := [_, _]) S6 0 rfl rfl rfl rfl (ones_cons rfl (ones_cons (Rd.one (vec_rd (S6.at 1 rfl))) ones_nil)) Try.sizeOf24 (by first | exact Nat.le_refl _ | simp) (splice_all rfl) ?_
  intro w9 S10 hk11
  refine l_nil ?_
  refine r_ret (rs := [.cell 0 24]) [_] Try.func61 rfl ⟨⟨_, rfl, (ld_blks (S10.blk 0 rfl) Try.isAgg24 Try.sizeOf24 rfl rfl)⟩, trivial⟩ ?_
  exact ⟨_, rfl, S10.new 1 rfl, S10.le⟩

/-- Narrow, where it may. -/
theorem c_NarrowOk (N : Int) (va : Value) (arcs : List Arc) (i lo hi r : Int) (h0 : narE N arcs i lo hi r = 0) (w : World) (hA : Rd EA w va arcs) :
    Cl Try.prog 20 #[.agg #[.int .i64 N, va], .int .i64 i, .int .i64 lo, .int .i64 hi, .int .i64 r] w fun v w' => ∃ vh, v = .tuple #[.agg #[.int .i64 N, vh], .int .i64 0] ∧ New w w' (vec EA vh (nar arcs i.toNat lo hi r)) ∧ Le w w' :=
  (c_Narrow N va arcs i lo hi r w hA).mono fun _ _ ⟨vh, h1, h2, h3⟩ => ⟨vh, by rw [h1, if_pos h0, h0], by rw [if_pos h0] at h2; exact h2, h3⟩
/-- Narrow, both ways. -/
theorem c_Narrow2 (N : Int) (va : Value) (arcs : List Arc) (i lo hi r : Int) (w : World) (hA : Rd EA w va arcs) :
    Cl Try.prog 20 #[.agg #[.int .i64 N, va], .int .i64 i, .int .i64 lo, .int .i64 hi, .int .i64 r] w fun v w' =>
      (∃ vh, v = .tuple #[.agg #[.int .i64 N, vh], .int .i64 0] ∧ New w w' (vec EA vh (nar arcs i.toNat lo hi r)) ∧ Le w w' ∧ narE N arcs i lo hi r = 0) ∨
      (∃ vh e, v = .tuple #[.agg #[.int .i64 0, vh], .int .i64 e] ∧ New w w' (vec EA vh []) ∧ Le w w' ∧ e = narE N arcs i lo hi r ∧ ¬ e = 0) := by
  refine (c_Narrow N va arcs i lo hi r w hA).mono fun _ _ ⟨vh, h1, h2, h3⟩ => ?_
  by_cases h0 : narE N arcs i lo hi r = 0
  · exact .inl ⟨vh, by rw [h1, if_pos h0, h0], by rw [if_pos h0] at h2; exact h2, h3, h0⟩
  · exact .inr ⟨vh, _, by rw [h1, if_neg h0], by rw [if_neg h0] at h2; exact h2, h3, rfl, h0⟩

set_option maxHeartbeats 4000000 in
/-- couchant/couchantlaw06.flowing. -/
theorem c_flowing  (w : World) :
    Cl Try.prog 19 #[] w fun v w' => v = .bool true ∧ Le w w' := by
  refine fn_of_run (args := []) 197 Try.func19 rfl rfl rfl fun cs => ?_
  have S := Own.start (X := nob) w
  refine r_seq ?_
  refine r_region ?_
  refine l_x rfl (x_as rfl) ?_
  refine l_nil ?_
  refine r_seq ?_
  refine r_region ?_
  refine l_call [] [] [] rfl rfl Try.call61 rfl (c_network _) ?_
  rintro _ w1 ⟨vn301, rfl, hN301, hl301⟩
  have S2 := S.add hl301 hN301
  refine l_alloc S2 rfl Try.zeroValue24 rfl ?_
  intro b6 w3 S4 hl5
  refine l_stores (vs := [_, _]) S4 1 rfl rfl rfl rfl (ones_cons rfl (ones_cons (Rd.one (vec_rd (S4.at 0 rfl))) ones_nil)) Try.sizeOf24 (by first | exact Nat.le_refl _ | simp) (splice_all rfl) ?_
  intro w7 S8 hk9
  refine l_nil ?_
  refine r_seq ?_
  refine r_region ?_
  refine l_x rfl (x_load rfl (ld_blks (S8.blk 1 rfl) Try.isAgg24 Try.sizeOf24 rfl rfl)) ?_
  refine l_buildSlice EI [3, 2, 2, 1] S8 rfl Try.runUnderlying25 Try.sizeOf3 Try.zeroValue3 rfl ⟨rfl, rfl, rfl, rfl, rfl, rfl, rfl, rfl, trivial⟩ (Nat.le_of_ble_eq_true rfl) ?_
  intro v13 w10 S11 hl12
  refine l_call [] [] [_, _] rfl rfl Try.call21 rfl (c_Kept _ _ _ _ _ (by first | omega | (rw [unit_length]; omega) | (rw [List.length_map]; omega) | decide) _ (vec_rd (S11.at 0 rfl)) (vec_rd (S11.at 2 rfl))) ?_
  rintro _ w14 ⟨rfl, hl16⟩
  have S15 := S11.step hl16
  refine l_x rfl (x_mv rfl) ?_
  refine l_x rfl (x_extract rfl rfl) ?_
  refine l_x rfl (x_extract rfl rfl) ?_
  refine l_x rfl (x_as rfl) ?_
  refine l_x rfl (x_as rfl) ?_
  refine l_nil ?_
  refine r_seq ?_
  refine r_slot 2 (.bool true) (congrArg Value.bool netK1) ?_
  refine r_slot 3 (.int .i64 0) (congrArg (Value.int .i64) netE1) ?_
  refine r_region ?_
  refine l_x rfl (x_load rfl (ld_blks (S15.blk 1 rfl) Try.isAgg24 Try.sizeOf24 rfl rfl)) ?_
  refine l_buildSlice EI [1, 1, 1, 0] S15 rfl Try.runUnderlying25 Try.sizeOf3 Try.zeroValue3 rfl ⟨rfl, rfl, rfl, rfl, rfl, rfl, rfl, rfl, trivial⟩ (Nat.le_of_ble_eq_true rfl) ?_
  intro v20 w17 S18 hl19
  refine l_call [] [] [_, _] rfl rfl Try.call21 rfl (c_Kept _ _ _ _ _ (by first | omega | (rw [unit_length]; omega) | (rw [List.length_map]; omega) | decide) _ (vec_rd (S18.at 0 rfl)) (vec_rd (S18.at 3 rfl))) ?_
  rintro _ w21 ⟨rfl, hl23⟩
  have S22 := S18.step hl23
  refine l_x rfl (x_mv rfl) ?_
  refine l_x rfl (x_extract rfl rfl) ?_
  refine l_x rfl (x_extract rfl rfl) ?_
  refine l_x rfl (x_as rfl) ?_
  refine l_x rfl (x_as rfl) ?_
  refine l_nil ?_
  refine r_seq ?_
  refine r_slot 4 (.bool false) (congrArg Value.bool netK2) ?_
  refine r_slot 5 (.int .i64 0) (congrArg (Value.int .i64) netE2) ?_
  refine r_region ?_
  refine l_x rfl (x_load rfl (ld_blks (S22.blk 1 rfl) Try.isAgg24 Try.sizeOf24 rfl rfl)) ?_
  refine l_call [] [] [_, _] rfl rfl Try.call23 rfl (c_Range _ _ _ _ _ (vec_rd (S22.at 0 rfl))) ?_
  rintro _ w24 ⟨lo4524, hi4524, e4524, rfl, hl4524, hR4524⟩
  have S25 := S22.step hl4524
  obtain ⟨rfl, rfl, rfl⟩ := netR hR4524
  refine l_x rfl (x_mv rfl) ?_
  refine l_x rfl (x_extract rfl rfl) ?_
  refine l_x rfl (x_extract rfl rfl) ?_
  refine l_x rfl (x_extract rfl rfl) ?_
  refine l_x rfl (x_as rfl) ?_
  refine l_x rfl (x_as rfl) ?_
  refine l_x rfl (x_as rfl) ?_
  refine l_nil ?_
  refine r_seq ?_
  have S26 := S25.pick (L' := [_, _]) [0, 1] (by decide) rfl
  refine r_forget [(1, .pointer (some ⟨b6, 0, none⟩)), (2, .bool true), (3, .int .i64 0), (4, .bool false), (5, .int .i64 0), (6, .int .i64 2), (7, .int .i64 5), (8, .int .i64 0)] ⟨rfl, rfl, rfl, rfl, rfl, rfl, rfl, rfl, trivial⟩ ?_
  intro ρ27
  refine r_region ?_
  refine l_x rfl (x_load rfl (ld_blks (S26.blk 1 rfl) Try.isAgg24 Try.sizeOf24 rfl rfl)) ?_
  refine l_buildSlice EI [1, 0, 1, 0] S26 rfl Try.runUnderlying25 Try.sizeOf3 Try.zeroValue3 rfl ⟨rfl, rfl, rfl, rfl, rfl, rfl, rfl, rfl, trivial⟩ (Nat.le_of_ble_eq_true rfl) ?_
  intro v31 w28 S29 hl30
  refine l_call [] [] [_, _] rfl rfl Try.call22 rfl (c_Greatest _ _ _ _ _ (by first | omega | (rw [unit_length]; omega) | (rw [List.length_map]; omega) | decide) _ (vec_rd (S29.at 0 rfl)) (vec_rd (S29.at 2 rfl))) ?_
  rintro _ w32 ⟨n5232, vx5232, x5232, vp5232, p5232, e5232, rfl, hO5232, hR5232⟩
  have S33 := S29.join hO5232
  obtain ⟨rfl, rfl, hxA, hx0A, hpA⟩ := netG1 hR5232
  refine l_x rfl (x_mv rfl) ?_
  refine l_x rfl (x_extract rfl rfl) ?_
  refine l_x rfl (x_extract rfl rfl) ?_
  refine l_x rfl (x_extract rfl rfl) ?_
  refine l_x rfl (x_extract rfl rfl) ?_
  refine l_x rfl (x_as rfl) ?_
  refine l_x rfl (x_as rfl) ?_
  refine l_x rfl (x_as rfl) ?_
  refine l_x rfl (x_as rfl) ?_
  refine l_nil ?_
  refine r_seq ?_
  have S34 := S33.pick (L' := [_, _, _, _]) [0, 1, 3, 4] (by decide) rfl
  refine r_forget [(1, .pointer (some ⟨b6, 0, none⟩)), (2, .bool true), (3, .int .i64 0), (4, .bool false), (5, .int .i64 0), (6, .int .i64 2), (7, .int .i64 5), (8, .int .i64 0), (9, .int .i64 9), (10, vx5232), (11, vp5232), (12, .int .i64 0)] ⟨rfl, rfl, rfl, rfl, rfl, rfl, rfl, rfl, rfl, rfl, rfl, rfl, trivial⟩ ?_
  intro ρ35
  refine r_region ?_
  refine l_x rfl (x_load rfl (ld_blks (S34.blk 1 rfl) Try.isAgg24 Try.sizeOf24 rfl rfl)) ?_
  refine l_buildSlice EI [0, 0, 1, 0] S34 rfl Try.runUnderlying25 Try.sizeOf3 Try.zeroValue3 rfl ⟨rfl, rfl, rfl, rfl, rfl, rfl, rfl, rfl, trivial⟩ (Nat.le_of_ble_eq_true rfl) ?_
  intro v39 w36 S37 hl38
  refine l_buildSlice EI [0, 0, -1] S37 rfl Try.runUnderlying25 Try.sizeOf3 Try.zeroValue3 rfl ⟨rfl, rfl, rfl, rfl, rfl, rfl, trivial⟩ (Nat.le_of_ble_eq_true rfl) ?_
  intro v43 w40 S41 hl42
  refine l_call [] [] [_, _, _] rfl rfl Try.call34 rfl (c_Bound _ _ _ _ _ _ _ (by first | omega | (rw [unit_length]; omega) | (rw [List.length_map]; omega) | decide) (by first | omega | (rw [unit_length]; omega) | (rw [List.length_map]; omega) | decide) _ (vec_rd (S41.at 0 rfl)) (vec_rd (S41.at 4 rfl)) (vec_rd (S41.at 5 rfl))) ?_
  rintro _ w44 ⟨rfl, hl46⟩
  have S45 := S41.step hl46
  refine l_x rfl (x_mv rfl) ?_
  refine l_x rfl (x_extract rfl rfl) ?_
  refine l_x rfl (x_extract rfl rfl) ?_
  refine l_x rfl (x_as rfl) ?_
  refine l_x rfl (x_as rfl) ?_
  refine l_nil ?_
  refine r_seq ?_
  refine r_slot 13 (.int .i64 4) (congrArg (Value.int .i64) netB1) ?_
  refine r_slot 14 (.int .i64 0) (congrArg (Value.int .i64) netB2) ?_
  refine r_region ?_
  refine l_x rfl (x_load rfl (ld_blks (S45.blk 1 rfl) Try.isAgg24 Try.sizeOf24 rfl rfl)) ?_
  refine l_buildSlice EI [0, 0, 1, 0] S45 rfl Try.runUnderlying25 Try.sizeOf3 Try.zeroValue3 rfl ⟨rfl, rfl, rfl, rfl, rfl, rfl, rfl, rfl, trivial⟩ (Nat.le_of_ble_eq_true rfl) ?_
  intro v50 w47 S48 hl49
  refine l_call [] [] [_, _] rfl rfl Try.call22 rfl (c_Greatest _ _ _ _ _ (by first | omega | (rw [unit_length]; omega) | (rw [List.length_map]; omega) | decide) _ (vec_rd (S48.at 0 rfl)) (vec_rd (S48.at 6 rfl))) ?_
  rintro _ w51 ⟨n6751, vx6751, x6751, vp6751, p6751, e6751, rfl, hO6751, hR6751⟩
  have S52 := S48.join hO6751
  obtain ⟨rfl, hqB, hq0B, hq1B⟩ := netG2 hR6751
  refine l_x rfl (x_mv rfl) ?_
  refine l_x rfl (x_extract rfl rfl) ?_
  refine l_x rfl (x_extract rfl rfl) ?_
  refine l_x rfl (x_extract rfl rfl) ?_
  refine l_x rfl (x_extract rfl rfl) ?_
  refine l_x rfl (x_as rfl) ?_
  refine l_x rfl (x_as rfl) ?_
  refine l_x rfl (x_as rfl) ?_
  refine l_x rfl (x_as rfl) ?_
  refine l_nil ?_
  refine r_seq ?_
  have S53 := S52.pick (L' := [_, _, _, _, _]) [0, 1, 2, 3, 8] (by decide) rfl
  refine r_forget [(1, .pointer (some ⟨b6, 0, none⟩)), (2, .bool true), (3, .int .i64 0), (4, .bool false), (5, .int .i64 0), (6, .int .i64 2), (7, .int .i64 5), (8, .int .i64 0), (9, .int .i64 9), (10, vx5232), (11, vp5232), (12, .int .i64 0), (13, .int .i64 4), (14, .int .i64 0), (17, vp6751), (18, .int .i64 0)] ⟨rfl, rfl, rfl, rfl, rfl, rfl, rfl, rfl, rfl, rfl, rfl, rfl, rfl, rfl, rfl, rfl, trivial⟩ ?_
  intro ρ54
  refine r_region ?_
  refine l_x rfl (x_load rfl (ld_blks (S53.blk 1 rfl) Try.isAgg24 Try.sizeOf24 rfl rfl)) ?_
  refine l_buildSlice EI [0, 0, 1, 0] S53 rfl Try.runUnderlying25 Try.sizeOf3 Try.zeroValue3 rfl ⟨rfl, rfl, rfl, rfl, rfl, rfl, rfl, rfl, trivial⟩ (Nat.le_of_ble_eq_true rfl) ?_
  intro v58 w55 S56 hl57
  refine l_x rfl (x_mv rfl) ?_
  refine l_call [] [] [_, _, _] rfl rfl Try.call40 rfl (c_Records _ _ _ _ _ _ _ (by first | omega | (rw [unit_length]; omega) | (rw [List.length_map]; omega) | decide) (by first | omega | (rw [unit_length]; omega) | (rw [List.length_map]; omega) | decide) _ (vec_rd (S56.at 0 rfl)) (vec_rd (S56.at 5 rfl)) (vec_rd (S56.at 4 rfl))) ?_
  rintro _ w59 ⟨s7659, rfl, hN7659, hl7659⟩
  rw [if_pos hq0B, hq1B] at hN7659
  have S60 := S56.add hl7659 hN7659
  refine l_x rfl (x_mv rfl) ?_
  refine l_x rfl (x_extract rfl rfl) ?_
  refine l_x rfl (x_extract rfl rfl) ?_
  refine l_x rfl (x_as rfl) ?_
  refine l_x rfl (x_as rfl) ?_
  refine l_nil ?_
  refine r_seq ?_
  refine r_seq ?_
  refine r_slot 20 (.int .i64 0) (congrArg (Value.int .i64) hq0B) ?_
  refine r_region ?_
  refine l_x rfl (x_mv rfl) ?_
  refine l_x rfl (x_neq rfl rfl) ?_
  refine l_x rfl (x_mv rfl) ?_
  refine l_splitd (d := 81) rfl (fun hg81 => ?_) (fun hg81 => ?_)
  · exact absurd hg81 (by omega)
  · skip
    refine l_x rfl (x_mv rfl) ?_
    refine l_x rfl (x_neq rfl rfl) ?_
    refine l_x rfl (x_pick_f rfl rfl) ?_
    refine l_x rfl (x_mv rfl) ?_
    refine l_splitd (d := 85) rfl (fun hg85 => ?_) (fun hg85 => ?_)
    · exact absurd hg85 (by omega)
    · skip
      refine l_x rfl (x_mv rfl) ?_
      refine l_x rfl (x_neq rfl rfl) ?_
      refine l_x rfl (x_pick_f rfl rfl) ?_
      refine l_x rfl (x_mv rfl) ?_
      refine l_splitd (d := 89) rfl (fun hg89 => ?_) (fun hg89 => ?_)
      · exact absurd hg89 (by omega)
      · skip
        refine l_x rfl (x_mv rfl) ?_
        refine l_x rfl (x_neq rfl rfl) ?_
        refine l_x rfl (x_pick_f rfl rfl) ?_
        refine l_x rfl (x_mv rfl) ?_
        refine l_splitd (d := 93) rfl (fun hg93 => ?_) (fun hg93 => ?_)
        · exact absurd hg93 (by omega)
        · skip
          refine l_x rfl (x_mv rfl) ?_
          refine l_x rfl (x_neq rfl rfl) ?_
          refine l_x rfl (x_pick_f rfl rfl) ?_
          refine l_x rfl (x_mv rfl) ?_
          refine l_splitd (d := 97) rfl (fun hg97 => ?_) (fun hg97 => ?_)
          · exact absurd hg97 (by omega)
          · skip
            refine l_x rfl (x_mv rfl) ?_
            refine l_x rfl (x_neq rfl rfl) ?_
            refine l_x rfl (x_pick_f rfl rfl) ?_
            refine l_x rfl (x_mv rfl) ?_
            refine l_splitd (d := 101) rfl (fun hg101 => ?_) (fun hg101 => ?_)
            · exact absurd hg101 (by omega)
            · skip
              refine l_x rfl (x_mv rfl) ?_
              refine l_x rfl (x_neq rfl rfl) ?_
              refine l_x rfl (x_pick_f rfl rfl) ?_
              refine l_x rfl (x_mv rfl) ?_
              refine l_splitd (d := 105) rfl (fun hg105 => ?_) (fun hg105 => ?_)
              · exact absurd hg105 (by omega)
              · skip
                refine l_x rfl (x_mv rfl) ?_
                refine l_x rfl (x_not rfl) ?_
                refine l_x rfl (x_pick_f rfl rfl) ?_
                refine l_x rfl (x_mv rfl) ?_
                refine l_x rfl (x_mv rfl) ?_
                refine l_x rfl (x_pick_f rfl rfl) ?_
                refine l_x rfl (x_mv rfl) ?_
                refine l_x rfl (x_mv rfl) ?_
                refine l_x rfl (x_len (vec_rd (S60.at 2 rfl)) rfl Try.runUnderlying25) ?_
                refine l_x rfl (x_neq rfl rfl) ?_
                refine l_x rfl (x_pick_f rfl rfl) ?_
                refine l_x rfl (x_mv rfl) ?_
                refine l_splitd (d := 117) rfl (fun hg117 => ?_) (fun hg117 => ?_)
                · exact absurd hg117 (by omega)
                · skip
                  refine l_x rfl (x_mv rfl) ?_
                  refine l_x rfl (x_len (vec_rd (S60.at 3 rfl)) rfl Try.runUnderlying25) ?_
                  refine l_x rfl (x_neq rfl rfl) ?_
                  refine l_x rfl (x_pick_f rfl rfl) ?_
                  refine l_nil ?_
                  refine r_ifd rfl (fun hc121 => ?_) (fun hc121 => ?_)
                  · exact absurd hc121 (by omega)
                  · skip
                    refine r_skip ?_
                    refine r_seq ?_
                    have S61 := S60.pick (L' := [_, _, _, _]) [0, 1, 2, 6] (by decide) rfl
                    refine r_forget [(1, .pointer (some ⟨b6, 0, none⟩)), (6, .int .i64 2), (7, .int .i64 5), (9, .int .i64 9), (10, vx5232), (13, .int .i64 4), (19, s7659)] ⟨rfl, rfl, rfl, rfl, rfl, rfl, rfl, trivial⟩ ?_
                    intro ρ62
                    refine r_region ?_
                    refine l_x rfl (x_load rfl (ld_blks (S61.blk 1 rfl) Try.isAgg24 Try.sizeOf24 rfl rfl)) ?_
                    refine l_call [] [] [_, _, _, _, _] rfl rfl Try.call20 rfl (c_NarrowOk 3 _ netA 1 0 0 7 netN1 _ (vec_rd (S61.at 0 rfl))) ?_
                    rintro _ w63 ⟨vh12463, rfl, hN12463, hl12463⟩
                    rw [netNB] at hN12463
                    have S64 := S61.add hl12463 hN12463
                    refine l_x rfl (x_mv rfl) ?_
                    refine l_x rfl (x_extract rfl rfl) ?_
                    refine l_x rfl (x_extract rfl rfl) ?_
                    refine l_alloc S64 rfl Try.zeroValue24 rfl ?_
                    intro b68 w65 S66 hl67
                    refine l_stores (vs := [_, _]) S66 5 rfl rfl rfl rfl (ones_cons rfl (ones_cons (Rd.one (vec_rd (S66.at 4 rfl))) ones_nil)) Try.sizeOf24 (by first | exact Nat.le_refl _ | simp) (splice_all rfl) ?_
                    intro w69 S70 hk71
                    refine l_x rfl (x_as rfl) ?_
                    refine l_nil ?_
                    refine r_seq ?_
                    have S72 := S70.pick (L' := [_, _, _, _, _, _]) [0, 1, 2, 3, 4, 5] (by decide) rfl
                    refine r_forget [(1, .pointer (some ⟨b6, 0, none⟩)), (6, .int .i64 2), (7, .int .i64 5), (9, .int .i64 9), (10, vx5232), (13, .int .i64 4), (19, s7659), (21, .pointer (some ⟨b68, 0, none⟩)), (22, .int .i64 0)] ⟨rfl, rfl, rfl, rfl, rfl, rfl, rfl, rfl, rfl, trivial⟩ ?_
                    intro ρ73
                    refine r_region ?_
                    refine l_x rfl (x_load rfl (ld_blks (S72.blk 5 rfl) Try.isAgg24 Try.sizeOf24 rfl rfl)) ?_
                    refine l_call [] [] [_, _, _, _, _] rfl rfl Try.call20 rfl (c_NarrowOk 3 _ netB 3 0 1 8 netN2 _ (vec_rd (S72.at 4 rfl))) ?_
                    rintro _ w74 ⟨vh12974, rfl, hN12974, hl12974⟩
                    rw [netNC] at hN12974
                    have S75 := S72.add hl12974 hN12974
                    refine l_x rfl (x_mv rfl) ?_
                    refine l_x rfl (x_extract rfl rfl) ?_
                    refine l_x rfl (x_extract rfl rfl) ?_
                    refine l_alloc S75 rfl Try.zeroValue24 rfl ?_
                    intro b79 w76 S77 hl78
                    refine l_stores (vs := [_, _]) S77 7 rfl rfl rfl rfl (ones_cons rfl (ones_cons (Rd.one (vec_rd (S77.at 6 rfl))) ones_nil)) Try.sizeOf24 (by first | exact Nat.le_refl _ | simp) (splice_all rfl) ?_
                    intro w80 S81 hk82
                    refine l_x rfl (x_as rfl) ?_
                    refine l_nil ?_
                    refine r_seq ?_
                    have S83 := S81.pick (L' := [_, _, _, _, _, _]) [0, 1, 2, 3, 6, 7] (by decide) rfl
                    refine r_forget [(1, .pointer (some ⟨b6, 0, none⟩)), (6, .int .i64 2), (7, .int .i64 5), (9, .int .i64 9), (10, vx5232), (13, .int .i64 4), (19, s7659), (22, .int .i64 0), (23, .pointer (some ⟨b79, 0, none⟩)), (24, .int .i64 0)] ⟨rfl, rfl, rfl, rfl, rfl, rfl, rfl, rfl, rfl, rfl, trivial⟩ ?_
                    intro ρ84
                    refine r_region ?_
                    refine l_x rfl (x_load rfl (ld_blks (S83.blk 5 rfl) Try.isAgg24 Try.sizeOf24 rfl rfl)) ?_
                    refine l_call [] [] [_] rfl rfl Try.call44 rfl (c_Obstacle _ _ _ _ (vec_rd (S83.at 4 rfl))) ?_
                    rintro _ w85 ⟨A13485, vn13485, ns13485, is13485, e13485, rfl, hN13485, hl13485, hR13485⟩
                    have S86 := S83.add hl13485 hN13485
                    obtain ⟨rfl, rfl, rfl, rfl⟩ := netO hR13485
                    refine l_x rfl (x_mv rfl) ?_
                    refine l_x rfl (x_extract rfl rfl) ?_
                    refine l_x rfl (x_extract rfl rfl) ?_
                    refine l_x rfl (x_extract rfl rfl) ?_
                    refine l_alloc S86 rfl Try.zeroValue43 rfl ?_
                    intro b90 w87 S88 hl89
                    refine l_stores (vs := [_, _]) S88 7 rfl rfl rfl rfl (ones_cons rfl (ones_cons (Rd.one (vec_rd (S88.at 6 rfl))) ones_nil)) Try.sizeOf43 (by first | exact Nat.le_refl _ | simp) (splice_all rfl) ?_
                    intro w91 S92 hk93
                    refine l_x rfl (x_as rfl) ?_
                    refine l_x rfl (x_as rfl) ?_
                    refine l_nil ?_
                    refine r_seq ?_
                    have S94 := S92.pick (L' := [_, _, _, _, _, _, _, _]) [0, 1, 2, 3, 4, 5, 6, 7] (by decide) rfl
                    refine r_forget [(1, .pointer (some ⟨b6, 0, none⟩)), (6, .int .i64 2), (7, .int .i64 5), (9, .int .i64 9), (10, vx5232), (13, .int .i64 4), (19, s7659), (22, .int .i64 0), (23, .pointer (some ⟨b79, 0, none⟩)), (24, .int .i64 0), (25, .pointer (some ⟨b90, 0, none⟩)), (26, .bool true), (27, .int .i64 0)] ⟨rfl, rfl, rfl, rfl, rfl, rfl, rfl, rfl, rfl, rfl, rfl, rfl, rfl, trivial⟩ ?_
                    intro ρ95
                    refine r_region ?_
                    refine l_x rfl (x_load rfl (ld_blks (S94.blk 5 rfl) Try.isAgg24 Try.sizeOf24 rfl rfl)) ?_
                    refine l_x rfl (x_load rfl (ld_blks (S94.blk 7 rfl) Try.isAgg43 Try.sizeOf43 rfl rfl)) ?_
                    refine l_call [] [] [_, _] rfl rfl Try.call27 rfl (c_ObstacleRecords _ _ _ _ _ _ (by first | omega | (rw [unit_length]; omega) | (rw [List.length_map]; omega) | decide) _ (vec_rd (S94.at 4 rfl)) (vec_rd (S94.at 6 rfl))) ?_
                    rintro _ w96 ⟨s14196, rfl, hN14196, hl14196⟩
                    rw [if_pos netO1, netO2] at hN14196
                    have S97 := S94.add hl14196 hN14196
                    refine l_x rfl (x_mv rfl) ?_
                    refine l_x rfl (x_extract rfl rfl) ?_
                    refine l_x rfl (x_extract rfl rfl) ?_
                    refine l_x rfl (x_as rfl) ?_
                    refine l_x rfl (x_as rfl) ?_
                    refine l_nil ?_
                    refine r_seq ?_
                    refine r_seq ?_
                    refine r_slot 29 (.int .i64 0) (congrArg (Value.int .i64) netO1) ?_
                    refine r_region ?_
                    refine l_x rfl (x_mv rfl) ?_
                    refine l_x rfl (x_neq rfl rfl) ?_
                    refine l_x rfl (x_mv rfl) ?_
                    refine l_splitd (d := 146) rfl (fun hg146 => ?_) (fun hg146 => ?_)
                    · exact absurd hg146 (by omega)
                    · skip
                      refine l_x rfl (x_mv rfl) ?_
                      refine l_x rfl (x_neq rfl rfl) ?_
                      refine l_x rfl (x_pick_f rfl rfl) ?_
                      refine l_x rfl (x_mv rfl) ?_
                      refine l_splitd (d := 150) rfl (fun hg150 => ?_) (fun hg150 => ?_)
                      · exact absurd hg150 (by omega)
                      · skip
                        refine l_x rfl (x_mv rfl) ?_
                        refine l_x rfl (x_neq rfl rfl) ?_
                        refine l_x rfl (x_pick_f rfl rfl) ?_
                        refine l_x rfl (x_mv rfl) ?_
                        refine l_splitd (d := 154) rfl (fun hg154 => ?_) (fun hg154 => ?_)
                        · exact absurd hg154 (by omega)
                        · skip
                          refine l_x rfl (x_mv rfl) ?_
                          refine l_x rfl (x_neq rfl rfl) ?_
                          refine l_x rfl (x_pick_f rfl rfl) ?_
                          refine l_x rfl (x_mv rfl) ?_
                          refine l_splitd (d := 158) rfl (fun hg158 => ?_) (fun hg158 => ?_)
                          · exact absurd hg158 (by omega)
                          · skip
                            refine l_x rfl (x_mv rfl) ?_
                            refine l_x rfl (x_not rfl) ?_
                            refine l_x rfl (x_pick_f rfl rfl) ?_
                            refine l_x rfl (x_mv rfl) ?_
                            refine l_x rfl (x_fieldAddr rfl Try.runUnderlying43 rfl Try.sizeOf3 (by decide)) ?_
                            refine l_x rfl (x_load rfl (ld_blk (S97.blk 7 rfl) Try.isAgg3 rfl)) ?_
                            refine l_x rfl (x_neq rfl rfl) ?_
                            refine l_x rfl (x_pick_f rfl rfl) ?_
                            refine l_nil ?_
                            refine r_ifd rfl (fun hc166 => ?_) (fun hc166 => ?_)
                            · exact absurd hc166 (by omega)
                            · skip
                              refine r_skip ?_
                              refine r_seq ?_
                              have S98 := S97.pick (L' := [_, _, _]) [2, 3, 8] (by decide) rfl
                              refine r_forget [(6, .int .i64 2), (7, .int .i64 5), (9, .int .i64 9), (10, vx5232), (13, .int .i64 4), (19, s7659), (28, s14196)] ⟨rfl, rfl, rfl, rfl, rfl, rfl, rfl, trivial⟩ ?_
                              intro ρ99
                              refine r_region ?_
                              refine l_x rfl (x_mv rfl) ?_
                              refine l_x rfl (x_eql rfl rfl) ?_
                              refine l_x rfl (x_mv rfl) ?_
                              refine l_splitd (d := 169) rfl (fun hg169 => ?_) (fun hg169 => ?_)
                              · skip
                                refine l_x rfl (x_mv rfl) ?_
                                refine l_x rfl (x_eql rfl rfl) ?_
                                refine l_x rfl (x_pick_t rfl rfl) ?_
                                refine l_x rfl (x_mv rfl) ?_
                                refine l_splitd (d := 173) rfl (fun hg173 => ?_) (fun hg173 => ?_)
                                · skip
                                  refine l_x rfl (x_mv rfl) ?_
                                  refine l_x rfl (x_eql rfl rfl) ?_
                                  refine l_x rfl (x_pick_t rfl rfl) ?_
                                  refine l_x rfl (x_mv rfl) ?_
                                  refine l_splitd (d := 177) rfl (fun hg177 => ?_) (fun hg177 => ?_)
                                  · skip
                                    refine l_x rfl (x_mv rfl) ?_
                                    refine l_x rfl (x_eql rfl rfl) ?_
                                    refine l_x rfl (x_pick_t rfl rfl) ?_
                                    refine l_x rfl (x_mv rfl) ?_
                                    refine l_splitd (d := 181) rfl (fun hg181 => ?_) (fun hg181 => ?_)
                                    · skip
                                      refine l_x rfl (x_mv rfl) ?_
                                      refine l_index EI rfl (vec_rd (S98.at 0 rfl)) rfl rfl Try.runUnderlying25 Try.sizeOf3 (by omega) hx0A ?_
                                      intro b100 o101 hat102 row103
                                      refine l_x rfl (x_load rfl (ld_cell Try.isAgg3 (row103 0 _ rfl))) ?_
                                      refine l_x rfl (x_eql rfl rfl) ?_
                                      refine l_x rfl (x_pick_t rfl rfl) ?_
                                      refine l_x rfl (x_mv rfl) ?_
                                      refine l_splitd (d := 187) rfl (fun hg187 => ?_) (fun hg187 => ?_)
                                      · skip
                                        refine l_x rfl (x_mv rfl) ?_
                                        refine l_buildSlice EI [3] S98 rfl Try.runUnderlying25 Try.sizeOf3 Try.zeroValue3 rfl ⟨rfl, rfl, trivial⟩ (Nat.le_of_ble_eq_true rfl) ?_
                                        intro v107 w104 S105 hl106
                                        refine l_call [] [] [_, _] rfl rfl Try.call29 rfl (c_SameInts _ _ _ _ (by first | omega | (simp; done) | (simp; omega)) _ (vec_rd (S105.at 1 rfl)) (vec_rd (S105.at 3 rfl))) ?_
                                        rintro _ w108 ⟨rfl, hl110⟩
                                        have S109 := S105.step hl110
                                        refine l_x rfl (x_pick_t rfl rfl) ?_
                                        refine l_x rfl (x_mv rfl) ?_
                                        refine l_split (d := 192) rfl (fun hg192 => ?_) (fun hg192 => ?_)
                                        · skip
                                          refine l_x rfl (x_mv rfl) ?_
                                          refine l_buildSlice EI [1, 7, 8] S109 rfl Try.runUnderlying25 Try.sizeOf3 Try.zeroValue3 rfl ⟨rfl, rfl, rfl, rfl, rfl, rfl, trivial⟩ (Nat.le_of_ble_eq_true rfl) ?_
                                          intro v114 w111 S112 hl113
                                          refine l_call [] [] [_, _] rfl rfl Try.call29 rfl (c_SameInts _ _ _ _ (by first | omega | (simp; done) | (simp; omega)) _ (vec_rd (S112.at 2 rfl)) (vec_rd (S112.at 4 rfl))) ?_
                                          rintro _ w115 ⟨rfl, hl117⟩
                                          have S116 := S112.step hl117
                                          refine l_x rfl (x_pick_t rfl rfl) ?_
                                          refine l_x rfl (x_as rfl) ?_
                                          refine l_nil ?_
                                          refine r_ret (rs := [.tmp 0]) [_] Try.func19 rfl ⟨rfl, trivial⟩ ?_
                                          exact ⟨congrArg Value.bool (decide_eq_true rfl), S116.le⟩
                                        · exact absurd hg192 (by decide)
                                      · exact absurd rfl hg187
                                    · exact absurd rfl hg181
                                  · exact absurd rfl hg177
                                · exact absurd rfl hg173
                              · exact absurd rfl hg169

end Go.Proofs
