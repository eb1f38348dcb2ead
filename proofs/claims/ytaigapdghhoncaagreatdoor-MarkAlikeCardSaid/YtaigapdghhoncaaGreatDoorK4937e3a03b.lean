/- Texts joined for claims: G5, G4. -/
import Derived.Test.YtaigapdghhoncaaGreatDoorK8a0fe47e94
import Derived.Test.YtaigapdghhoncaaGreatDoorK0d4e033ce2
import Derived.Test.YtaigapdghhoncaaGreatDoorK43677da9cf
set_option linter.unusedVariables false
set_option linter.unusedSimpArgs false
set_option linter.unusedSectionVars false
/-
  Contracts of functions of the program: each by symbolic execution of its text.
-/
namespace Go.Proofs
open Go Go.Vk Go.Vk.Flow

open Go.Vk.Mark
open Go.Vk.Deed (i64 rng rng_iff owners sumI sumI_cons sumI_snoc)

set_option maxHeartbeats 4000000 in
/-- couchant/couchantref03.common. -/
theorem c_rcommon (b : Sm) (vm vf : Value) (x y : Sg) (w : World) (hB : SmR 39 41 w vm vf b) :
    Cl Tryz.prog 77 #[.agg #[vm, vf], Value.agg (encSg x).toArray, Value.agg (encSg y).toArray] w fun v w' => v = .tuple #[Value.agg (encSg ((alike b x y).getD zeroSg)).toArray, .bool (alike b x y).isSome] ∧ Le w w' := by
  refine fn_of_run (args := [_, _, _]) 48 Tryz.func77 rfl rfl rfl fun cs => ?_
  have S := Own.start (X := nob) w
  refine r_seq ?_
  refine r_region ?_
  refine l_box S rfl rfl ?_
  intro b4 w1 S2 hl3
  refine l_box S2 rfl rfl ?_
  intro b8 w5 S6 hl7
  refine l_box S6 rfl rfl ?_
  intro b12 w9 S10 hl11
  refine l_alloc S10 rfl Tryz.zeroValue30 rfl ?_
  intro b16 w13 S14 hl15
  refine l_x rfl (x_as rfl) ?_
  refine l_nil ?_
  refine r_seq ?_
  refine r_region ?_
  refine l_alloc S14 rfl Tryz.zeroValue30 rfl ?_
  intro b20 w17 S18 hl19
  refine l_nil ?_
  refine r_seq ?_
  refine r_seq ?_
  refine r_region ?_
  refine l_x rfl (x_as rfl) ?_
  refine l_nil ?_
  refine r_block ?_
  refine r_loop (G := Nat) (fun i => 6 - i) (fun i => [(3, .pointer (some ⟨b4, 0, none⟩)), (4, .pointer (some ⟨b8, 0, none⟩)), (5, .pointer (some ⟨b12, 0, none⟩)), (6, .pointer (some ⟨b16, 0, none⟩)), (8, .pointer (some ⟨b20, 0, none⟩)), (9, Value.int .i64 i)]) (fun i w' => (i ≤ 6) ∧ (∀ q, q < i → (commonAt b x y q).isSome = true) ∧ Own nob w w' [blk b4 [vm, vf] 25, blk b8 (encSg x) 28, blk b12 (encSg y) 28, blk b16 (encSg zeroSg) 30, blk b20 (encSg (alikeP b x y i)) 30]) 0 ⟨rfl, rfl, rfl, rfl, rfl, rfl, trivial⟩ ⟨Nat.zero_le _, fun q h => absurd h (Nat.not_lt_zero q), S18⟩ ?_
  rintro i ρ w1 ⟨hi, hc, S1⟩ IH
  refine r_seq ?_
  refine r_seq ?_
  refine r_region ?_
  refine l_x rfl (x_mv rfl) ?_
  refine l_x rfl (x_lss rfl rfl) ?_
  refine l_nil ?_
  refine r_ifd rfl (fun hc13 => ?_) (fun hc13 => ?_)
  · skip
    refine r_skip ?_
    refine r_seq ?_
    refine r_block ?_
    refine r_seq ?_
    refine r_region ?_
    refine l_x rfl (x_as rfl) ?_
    refine l_nil ?_
    refine r_seq ?_
    refine r_seq ?_
    refine r_region ?_
    refine l_x rfl (x_as rfl) ?_
    refine l_nil ?_
    refine r_block ?_
    refine r_loop (G := Nat × Option Int) (fun ⟨u, fo⟩ => 5 - u) (fun ⟨u, fo⟩ => [(3, .pointer (some ⟨b4, 0, none⟩)), (4, .pointer (some ⟨b8, 0, none⟩)), (5, .pointer (some ⟨b12, 0, none⟩)), (6, .pointer (some ⟨b16, 0, none⟩)), (8, .pointer (some ⟨b20, 0, none⟩)), (9, Value.int .i64 i), (10, .bool fo.isSome), (11, Value.int .u8 (u : Int))]) (fun ⟨u, fo⟩ w' => (u ≤ 5) ∧ (fo = none → ∀ q : Nat, q < u → (fun q : Nat => mayB b i (x.get i) q && mayB b i (y.get i) q) q = false) ∧ (∀ z, fo = some z → common b i (x.get i) (y.get i) = some z) ∧ Own nob w w' [blk b4 [vm, vf] 25, blk b8 (encSg x) 28, blk b12 (encSg y) 28, blk b16 (encSg zeroSg) 30, blk b20 (encSg (sgF b x y i fo)) 30]) (0, none) ⟨rfl, rfl, rfl, rfl, rfl, rfl, rfl, rfl, trivial⟩ ⟨Nat.zero_le _, fun _ q h => absurd h (Nat.not_lt_zero q), (fun z h => by cases h), S1⟩ ?_
    rintro ⟨u, fo⟩ ρ w1b ⟨hu, hn, hs9, S1b⟩ IHb
    refine r_seq ?_
    refine r_seq ?_
    refine r_region ?_
    refine l_x rfl (x_mv rfl) ?_
    refine l_x rfl (x_leq rfl rfl) ?_
    refine l_x rfl (x_mv rfl) ?_
    refine l_splitd (d := 18) rfl (fun hg18 => ?_) (fun hg18 => ?_)
    · skip
      refine l_x rfl (x_mv rfl) ?_
      refine l_x rfl (x_not rfl) ?_
      refine l_x rfl (x_pick_t rfl rfl) ?_
      refine l_nil ?_
      refine r_if rfl (fun hc21 => ?_) (fun hc21 => ?_)
      · skip
        obtain rfl : fo = none := by cases fo with
          | none => rfl
          | some z => simp at hc21
        refine r_skip ?_
        refine r_seq ?_
        refine r_block ?_
        refine r_seq ?_
        refine r_drawR 16 Tryz.mixed (by kernel_rfl) ?_
        refine w_x rfl (fun w1 h1 => x_load rfl (ld_blks ((S1b.step h1).blk 0 rfl) Tryz.isAgg25 Tryz.sizeOf25 rfl rfl)) ?_
        refine w_x rfl (fun w1 h1 => x_mv rfl) ?_
        refine w_x rfl (fun w1 h1 => x_mv rfl) ?_
        refine w_x rfl (fun w1 h1 => x_indexAddr_array rfl rfl Tryz.runUnderlying28 Tryz.sizeOf5 (by omega)) ?_
        refine w_x rfl (fun w1 h1 => x_load rfl (ld_blk ((S1b.step h1).blk 1 rfl) Tryz.isAgg5 (sgb_get (by omega)))) ?_
        refine w_x rfl (fun w1 h1 => x_mv rfl) ?_
        refine wd_call [] [] [_, _, _, _] rfl rfl Tryz.call124 rfl (fun w1 h1 => c_rmay b vm vf i (x.get i) (u : Int) _ (hB.le (S1b.step h1).le)) ?_
        refine w_x rfl (fun w1 h1 => x_mv rfl) ?_
        refine w_split (d := 31) rfl (fun hg31 => ?_) (fun hg31 => ?_)
        · skip
          refine w_x rfl (fun w1 h1 => x_load rfl (ld_blks ((S1b.step h1).blk 0 rfl) Tryz.isAgg25 Tryz.sizeOf25 rfl rfl)) ?_
          refine w_x rfl (fun w1 h1 => x_mv rfl) ?_
          refine w_x rfl (fun w1 h1 => x_mv rfl) ?_
          refine w_x rfl (fun w1 h1 => x_indexAddr_array rfl rfl Tryz.runUnderlying28 Tryz.sizeOf5 (by omega)) ?_
          refine w_x rfl (fun w1 h1 => x_load rfl (ld_blk ((S1b.step h1).blk 2 rfl) Tryz.isAgg5 (sgb_get (by omega)))) ?_
          refine w_x rfl (fun w1 h1 => x_mv rfl) ?_
          refine wd_call [] [] [_, _, _, _] rfl rfl Tryz.call124 rfl (fun w1 h1 => c_rmay b vm vf i (y.get i) (u : Int) _ (hB.le (S1b.step h1).le)) ?_
          refine w_x rfl (fun w1 h1 => x_pick_t rfl rfl) ?_
          refine w_nil ?_
          intro w21 hl22
          have S23 := S1b.step hl22
          refine l_nil ?_
          refine r_if rfl (fun hc39 => ?_) (fun hc39 => ?_)
          · skip
            refine r_seq ?_
            refine r_region ?_
            refine l_x rfl (x_mv rfl) ?_
            refine l_x rfl (x_mv rfl) ?_
            refine l_x rfl (x_fieldAddr rfl Tryz.runUnderlying30 rfl Tryz.sizeOf28 (by decide)) ?_
            refine l_x rfl (x_indexAddr_array rfl rfl Tryz.runUnderlying28 Tryz.sizeOf5 (by omega)) ?_
            refine l_storeq S23 4 rfl rfl rfl rfl rfl Tryz.sizeOf5 (sgb_lt (by omega)) (sgb_set (by omega)) ?_
            intro w24 S25 hk26
            refine l_nil ?_
            refine r_region ?_
            refine l_x rfl (x_as rfl) ?_
            refine l_nil ?_
            refine r_inBlock ?_
            refine r_region ?_
            refine l_x rfl (x_mv rfl) ?_
            refine l_x rfl (x_add8 rfl rfl (by omega)) ?_
            refine l_x rfl (x_as rfl) ?_
            refine l_nil ?_
            exact IHb (u + 1, some (u : Int)) _ _ (by dsimp only; omega) ⟨rfl, rfl, rfl, rfl, rfl, rfl, rfl, rfl, trivial⟩ ⟨by omega, (fun h => by cases h), (fun z hz => by cases hz; exact common_at (by omega) (by simp_all) (hn rfl)), (S25.take 5)⟩
          refine r_skip ?_
          refine r_inBlock ?_
          refine r_region ?_
          refine l_x rfl (x_mv rfl) ?_
          refine l_x rfl (x_add8 rfl rfl (by omega)) ?_
          refine l_x rfl (x_as rfl) ?_
          refine l_nil ?_
          exact IHb (u + 1, none) _ _ (by dsimp only; omega) ⟨rfl, rfl, rfl, rfl, rfl, rfl, rfl, rfl, trivial⟩ ⟨by omega, (fun _ => no_step (P := (fun q : Nat => mayB b i (x.get i) q && mayB b i (y.get i) q)) (hn rfl) (by simp_all)), (fun z hz => by cases hz), (S23.take 5)⟩
        refine w_pass rfl ?_
        refine w_pass rfl ?_
        refine w_pass rfl ?_
        refine w_pass rfl ?_
        refine w_pass rfl ?_
        refine w_pass rfl ?_
        refine w_pass rfl ?_
        refine w_x rfl (fun w1 h1 => x_pick_f rfl rfl) ?_
        refine w_nil ?_
        intro w27 hl28
        have S29 := S1b.step hl28
        refine l_nil ?_
        refine r_false rfl ?_
        refine r_skip ?_
        refine r_inBlock ?_
        refine r_region ?_
        refine l_x rfl (x_mv rfl) ?_
        refine l_x rfl (x_add8 rfl rfl (by omega)) ?_
        refine l_x rfl (x_as rfl) ?_
        refine l_nil ?_
        exact IHb (u + 1, none) _ _ (by dsimp only; omega) ⟨rfl, rfl, rfl, rfl, rfl, rfl, rfl, rfl, trivial⟩ ⟨by omega, (fun _ => no_step (P := (fun q : Nat => mayB b i (x.get i) q && mayB b i (y.get i) q)) (hn rfl) (by simp_all)), (fun z hz => by cases hz), (S29.take 5)⟩
      obtain ⟨z9, rfl⟩ : ∃ z, fo = some z := by cases fo with
        | none => simp at hc21
        | some z => exact ⟨z, rfl⟩
      refine r_exit rfl ?_
      refine r_seq ?_
      refine r_region ?_
      refine l_x rfl (x_mv rfl) ?_
      refine l_x rfl (x_not rfl) ?_
      refine l_nil ?_
      refine r_if rfl (fun hc45 => ?_) (fun hc45 => ?_)
      · simp at hc45
      refine r_skip ?_
      refine r_inBlock ?_
      refine r_region ?_
      refine l_x rfl (x_mv rfl) ?_
      refine l_x rfl (x_add rfl rfl (by omega)) ?_
      refine l_x rfl (x_as rfl) ?_
      refine l_nil ?_
      exact IH (i + 1) _ _ (by omega) ⟨rfl, rfl, rfl, rfl, rfl, rfl, trivial⟩ ⟨by omega, yes_step (P := fun q => (commonAt b x y q).isSome) hc (by show (common b i (x.get i) (y.get i)).isSome = true; rw [hs9 _ rfl]; rfl), (by have h := S1b.take 5; rw [sgF_some (by omega) (hs9 _ rfl)] at h; exact h)⟩
    refine l_pass rfl ?_
    refine l_pass rfl ?_
    refine l_x rfl (x_pick_f rfl rfl) ?_
    refine l_nil ?_
    refine r_false rfl ?_
    refine r_exit rfl ?_
    refine r_seq ?_
    refine r_region ?_
    refine l_x rfl (x_mv rfl) ?_
    refine l_x rfl (x_not rfl) ?_
    refine l_nil ?_
    refine r_if rfl (fun hc45 => ?_) (fun hc45 => ?_)
    · skip
      obtain rfl : fo = none := by cases fo with
        | none => rfl
        | some z => simp at hc45
      obtain rfl : u = 5 := by omega
      have hnn : commonAt b x y i = none := common_no (hn rfl)
      refine r_seq ?_
      refine r_region ?_
      refine l_x rfl (x_buildS (out := [_, _, _, _, _, _]) (ss := [6]) Tryz.zeroValue30 rfl Tryz.runUnderlying30 ⟨Tryz.sizeOf28, trivial⟩ fill_nil) ?_
      refine l_stores (vs := [_, _, _, _, _, _]) S1b 3 rfl rfl rfl rfl (ones_cons rfl (ones_cons rfl (ones_cons rfl (ones_cons rfl (ones_cons rfl (ones_cons rfl ones_nil)))))) Tryz.sizeOf30 (by first | exact Nat.le_refl _ | simp) (splice_all rfl) ?_
      intro w30 S31 hk32
      refine l_x rfl (x_as rfl) ?_
      refine l_nil ?_
      refine r_ret (rs := [.cell 6 30, .tmp 7]) [_, _] Tryz.func77 rfl ⟨⟨_, rfl, (ld_blks (S31.blk 3 rfl) Tryz.isAgg30 Tryz.sizeOf30 rfl rfl)⟩, rfl, trivial⟩ ?_
      exact ⟨by rw [alike_no (i := i) (by omega) (by rw [hnn]; rfl)]; rfl, S31.le⟩
    obtain ⟨z9, rfl⟩ : ∃ z, fo = some z := by cases fo with
      | none => simp at hc45
      | some z => exact ⟨z, rfl⟩
    refine r_skip ?_
    refine r_inBlock ?_
    refine r_region ?_
    refine l_x rfl (x_mv rfl) ?_
    refine l_x rfl (x_add rfl rfl (by omega)) ?_
    refine l_x rfl (x_as rfl) ?_
    refine l_nil ?_
    exact IH (i + 1) _ _ (by omega) ⟨rfl, rfl, rfl, rfl, rfl, rfl, trivial⟩ ⟨by omega, yes_step (P := fun q => (commonAt b x y q).isSome) hc (by show (common b i (x.get i) (y.get i)).isSome = true; rw [hs9 _ rfl]; rfl), (by have h := S1b.take 5; rw [sgF_some (by omega) (hs9 _ rfl)] at h; exact h)⟩
  obtain rfl : i = 6 := by omega
  refine r_exit rfl ?_
  refine r_seq ?_
  refine r_region ?_
  refine l_x rfl (x_load rfl (ld_blks (S1.blk 4 rfl) Tryz.isAgg30 Tryz.sizeOf30 rfl rfl)) ?_
  refine l_stores (vs := [_, _, _, _, _, _]) S1 3 rfl rfl rfl rfl (ones_cons rfl (ones_cons rfl (ones_cons rfl (ones_cons rfl (ones_cons rfl (ones_cons rfl ones_nil)))))) Tryz.sizeOf30 (by first | exact Nat.le_refl _ | simp) (splice_all rfl) ?_
  intro w33 S34 hk35
  refine l_x rfl (x_as rfl) ?_
  refine l_nil ?_
  refine r_ret (rs := [.cell 6 30, .tmp 7]) [_, _] Tryz.func77 rfl ⟨⟨_, rfl, (ld_blks (S34.blk 3 rfl) Tryz.isAgg30 Tryz.sizeOf30 rfl rfl)⟩, rfl, trivial⟩ ?_
  exact ⟨by rw [alike_yes hc]; rfl, S34.le⟩

theorem all2 {x y : Int} : [x, y].all ownB = (ownB x && ownB y) := by simp

set_option maxHeartbeats 2000000 in
/-- couchant/couchantref03.Alike. -/
theorem c_rAlike (b : Sm) (vm vf : Value) (day x y : Int) (w : World) (hB : SmR 39 41 w vm vf b) :
    Cl Tryz.prog 54 #[.agg #[vm, vf], Value.int .i64 day, Value.int .i64 x, Value.int .i64 y] w fun v w' => v = .tuple #[Value.agg (encSg ((aliQ b day x y).getD zeroSg)).toArray, .bool (aliQ b day x y).isSome, .int .i64 (aliE b day x y)] ∧ Le w w' := by
  refine fn_of_run (args := [_, _, _, _]) 60 Tryz.func54 rfl rfl rfl fun cs => ?_
  have S := Own.start (X := nob) w
  refine r_seq ?_
  refine r_region ?_
  refine l_box S rfl rfl ?_
  intro b4 w1 S2 hl3
  refine l_alloc S2 rfl Tryz.zeroValue30 rfl ?_
  intro b8 w5 S6 hl7
  refine l_x rfl (x_as rfl) ?_
  refine l_x rfl (x_as rfl) ?_
  refine l_nil ?_
  refine r_seq ?_
  refine r_region ?_
  refine l_x rfl (x_load rfl (ld_blks (S6.blk 0 rfl) Tryz.isAgg25 Tryz.sizeOf25 rfl rfl)) ?_
  refine l_x rfl (x_mv rfl) ?_
  refine l_x rfl (x_mv rfl) ?_
  refine l_x rfl (x_mv rfl) ?_
  refine l_buildSlice EI [_, _] S6 rfl Tryz.runUnderlying52 Tryz.sizeOf3 Tryz.zeroValue3 rfl ⟨rfl, rfl, rfl, rfl, trivial⟩ (Nat.le_of_ble_eq_true rfl) ?_
  intro v12 w9 S10 hl11
  refine l_call [] [] [_, _, _] rfl rfl Tryz.call104 rfl (c_rstart b vm vf day [x, y] _ (Nat.le_of_ble_eq_true rfl) _ (hB.le S10.le) (vec_rd (S10.at 2 rfl))) ?_
  rintro _ w13 ⟨rfl, hl15⟩
  have S14 := S10.step hl15
  refine l_x rfl (x_as rfl) ?_
  refine l_nil ?_
  refine r_seq ?_
  refine r_seq ?_
  refine r_region ?_
  refine l_x rfl (x_mv rfl) ?_
  refine l_x rfl (x_neq rfl rfl) ?_
  refine l_nil ?_
  refine r_ifd rfl (fun hc25 => ?_) (fun hc25 => ?_)
  · skip
    refine r_seq ?_
    refine r_region ?_
    refine l_x rfl (x_buildS (out := [_, _, _, _, _, _]) (ss := [6]) Tryz.zeroValue30 rfl Tryz.runUnderlying30 ⟨Tryz.sizeOf28, trivial⟩ fill_nil) ?_
    refine l_x rfl (x_mv rfl) ?_
    refine l_stores (vs := [_, _, _, _, _, _]) S14 1 rfl rfl rfl rfl (ones_cons rfl (ones_cons rfl (ones_cons rfl (ones_cons rfl (ones_cons rfl (ones_cons rfl ones_nil)))))) Tryz.sizeOf30 (by first | exact Nat.le_refl _ | simp) (splice_all rfl) ?_
    intro w16 S17 hk18
    refine l_x rfl (x_as rfl) ?_
    refine l_x rfl (x_as rfl) ?_
    refine l_nil ?_
    refine r_ret (rs := [.cell 8 30, .tmp 9, .tmp 10]) [_, _, _] Tryz.func54 rfl ⟨⟨_, rfl, (ld_blks (S17.blk 1 rfl) Tryz.isAgg30 Tryz.sizeOf30 rfl rfl)⟩, rfl, rfl, trivial⟩ ?_
    rw [all2] at hc25
    exact ⟨ali_tup (q := none) (aliQ_bad hc25 rfl) (by rw [all2]; exact aliE_bad hc25 rfl), S17.le⟩
  refine r_skip ?_
  refine r_seq ?_
  refine r_region ?_
  refine l_x rfl (x_load rfl (ld_blks (S14.blk 0 rfl) Tryz.isAgg25 Tryz.sizeOf25 rfl rfl)) ?_
  refine l_x rfl (x_mv rfl) ?_
  refine l_x rfl (x_mv rfl) ?_
  refine l_call [] [] [_, _, _] rfl rfl Tryz.call105 rfl (c_rmark b vm vf day x _ (hB.le S14.le)) ?_
  rintro _ w19 (⟨mx, rfl, hmk3219, hl3219⟩ | ⟨rfl, hmk3219, hl3219⟩)
  · skip
    have S20 := S14.step hl3219
    refine l_x rfl (x_mv rfl) ?_
    refine l_x rfl (x_extract rfl rfl) ?_
    refine l_x rfl (x_extract rfl rfl) ?_
    refine l_alloc S20 rfl Tryz.zeroValue39 rfl ?_
    intro b24 w21 S22 hl23
    refine l_stores (vs := [_, _, _, _, _, _, _, _, _]) S22 3 rfl rfl rfl rfl (ones_cons rfl (ones_cons rfl (ones_cons rfl (ones_cons rfl (ones_cons rfl (ones_cons rfl (ones_cons rfl (ones_cons rfl (ones_cons rfl ones_nil))))))))) Tryz.sizeOf39 (by first | exact Nat.le_refl _ | simp) (splice_all rfl) ?_
    intro w25 S26 hk27
    refine l_x rfl (x_as rfl) ?_
    refine l_nil ?_
    refine r_seq ?_
    refine r_region ?_
    refine l_x rfl (x_load rfl (ld_blks (S26.blk 0 rfl) Tryz.isAgg25 Tryz.sizeOf25 rfl rfl)) ?_
    refine l_x rfl (x_mv rfl) ?_
    refine l_x rfl (x_mv rfl) ?_
    refine l_call [] [] [_, _, _] rfl rfl Tryz.call105 rfl (c_rmark b vm vf day y _ (hB.le S26.le)) ?_
    rintro _ w28 (⟨my, rfl, hmk3928, hl3928⟩ | ⟨rfl, hmk3928, hl3928⟩)
    · skip
      have S29 := S26.step hl3928
      refine l_x rfl (x_mv rfl) ?_
      refine l_x rfl (x_extract rfl rfl) ?_
      refine l_x rfl (x_extract rfl rfl) ?_
      refine l_alloc S29 rfl Tryz.zeroValue39 rfl ?_
      intro b33 w30 S31 hl32
      refine l_stores (vs := [_, _, _, _, _, _, _, _, _]) S31 4 rfl rfl rfl rfl (ones_cons rfl (ones_cons rfl (ones_cons rfl (ones_cons rfl (ones_cons rfl (ones_cons rfl (ones_cons rfl (ones_cons rfl (ones_cons rfl ones_nil))))))))) Tryz.sizeOf39 (by first | exact Nat.le_refl _ | simp) (splice_all rfl) ?_
      intro w34 S35 hk36
      refine l_x rfl (x_as rfl) ?_
      refine l_nil ?_
      refine r_seq ?_
      refine r_seq ?_
      refine r_region ?_
      refine l_x rfl (x_mv rfl) ?_
      refine l_x rfl (x_not rfl) ?_
      refine l_x rfl (x_mv rfl) ?_
      refine l_x rfl (x_mv rfl) ?_
      refine l_x rfl (x_not rfl) ?_
      refine l_x rfl (x_pick_f rfl rfl) ?_
      refine l_nil ?_
      refine r_false rfl ?_
      refine r_skip ?_
      refine r_seq ?_
      refine r_region ?_
      refine l_x rfl (x_load rfl (ld_blks (S35.blk 0 rfl) Tryz.isAgg25 Tryz.sizeOf25 rfl rfl)) ?_
      refine l_x rfl (x_fieldAddr rfl Tryz.runUnderlying39 rfl Tryz.sizeOf28 (by decide)) ?_
      refine l_x rfl (x_load rfl (ld_blks (S35.blk 3 rfl) Tryz.isAgg28 Tryz.sizeOf28 rfl rfl)) ?_
      refine l_x rfl (x_fieldAddr rfl Tryz.runUnderlying39 rfl Tryz.sizeOf28 (by decide)) ?_
      refine l_x rfl (x_load rfl (ld_blks (S35.blk 4 rfl) Tryz.isAgg28 Tryz.sizeOf28 rfl rfl)) ?_
      refine l_call [] [] [_, _, _] rfl rfl Tryz.call77 rfl (c_rcommon b vm vf mx.s my.s _ (hB.le S35.le)) ?_
      rintro _ w37 ⟨rfl, hl39⟩
      have S38 := S35.step hl39
      refine l_x rfl (x_mv rfl) ?_
      refine l_x rfl (x_extract rfl rfl) ?_
      refine l_x rfl (x_extract rfl rfl) ?_
      refine l_alloc S38 rfl Tryz.zeroValue30 rfl ?_
      intro b43 w40 S41 hl42
      refine l_stores (vs := [_, _, _, _, _, _]) S41 5 rfl rfl rfl rfl (ones_cons rfl (ones_cons rfl (ones_cons rfl (ones_cons rfl (ones_cons rfl (ones_cons rfl ones_nil)))))) Tryz.sizeOf30 (by first | exact Nat.le_refl _ | simp) (splice_all rfl) ?_
      intro w44 S45 hk46
      refine l_x rfl (x_as rfl) ?_
      refine l_nil ?_
      refine r_seq ?_
      refine r_region ?_
      refine l_x rfl (x_load rfl (ld_blks (S45.blk 5 rfl) Tryz.isAgg30 Tryz.sizeOf30 rfl rfl)) ?_
      refine l_x rfl (x_mv rfl) ?_
      refine l_stores (vs := [_, _, _, _, _, _]) S45 1 rfl rfl rfl rfl (ones_cons rfl (ones_cons rfl (ones_cons rfl (ones_cons rfl (ones_cons rfl (ones_cons rfl ones_nil)))))) Tryz.sizeOf30 (by first | exact Nat.le_refl _ | simp) (splice_all rfl) ?_
      intro w47 S48 hk49
      refine l_x rfl (x_as rfl) ?_
      refine l_x rfl (x_as rfl) ?_
      refine l_nil ?_
      refine r_ret (rs := [.cell 8 30, .tmp 9, .tmp 10]) [_, _, _] Tryz.func54 rfl ⟨⟨_, rfl, (ld_blks (S48.blk 1 rfl) Tryz.isAgg30 Tryz.sizeOf30 rfl rfl)⟩, rfl, rfl, trivial⟩ ?_
      rw [all2] at hc25
      have ho := Decidable.not_not.1 hc25
      exact ⟨ali_tup (aliQ_ok ho hmk3219 hmk3928) (aliE_ok ho hmk3219 hmk3928), S48.le⟩
    have S50 := S26.step hl3928
    refine l_x rfl (x_mv rfl) ?_
    refine l_x rfl (x_extract rfl rfl) ?_
    refine l_x rfl (x_extract rfl rfl) ?_
    refine l_alloc S50 rfl Tryz.zeroValue39 rfl ?_
    intro b54 w51 S52 hl53
    refine l_stores (vs := [_, _, _, _, _, _, _, _, _]) S52 4 rfl rfl rfl rfl (ones_cons rfl (ones_cons rfl (ones_cons rfl (ones_cons rfl (ones_cons rfl (ones_cons rfl (ones_cons rfl (ones_cons rfl (ones_cons rfl ones_nil))))))))) Tryz.sizeOf39 (by first | exact Nat.le_refl _ | simp) (splice_all rfl) ?_
    intro w55 S56 hk57
    refine l_x rfl (x_as rfl) ?_
    refine l_nil ?_
    refine r_seq ?_
    refine r_seq ?_
    refine r_region ?_
    refine l_x rfl (x_mv rfl) ?_
    refine l_x rfl (x_not rfl) ?_
    refine l_x rfl (x_mv rfl) ?_
    refine l_x rfl (x_mv rfl) ?_
    refine l_x rfl (x_not rfl) ?_
    refine l_x rfl (x_pick_f rfl rfl) ?_
    refine l_nil ?_
    refine r_true rfl ?_
    refine r_seq ?_
    refine r_region ?_
    refine l_x rfl (x_buildS (out := [_, _, _, _, _, _]) (ss := [6]) Tryz.zeroValue30 rfl Tryz.runUnderlying30 ⟨Tryz.sizeOf28, trivial⟩ fill_nil) ?_
    refine l_stores (vs := [_, _, _, _, _, _]) S56 1 rfl rfl rfl rfl (ones_cons rfl (ones_cons rfl (ones_cons rfl (ones_cons rfl (ones_cons rfl (ones_cons rfl ones_nil)))))) Tryz.sizeOf30 (by first | exact Nat.le_refl _ | simp) (splice_all rfl) ?_
    intro w58 S59 hk60
    refine l_x rfl (x_as rfl) ?_
    refine l_x rfl (x_as rfl) ?_
    refine l_nil ?_
    refine r_ret (rs := [.cell 8 30, .tmp 9, .tmp 10]) [_, _, _] Tryz.func54 rfl ⟨⟨_, rfl, (ld_blks (S59.blk 1 rfl) Tryz.isAgg30 Tryz.sizeOf30 rfl rfl)⟩, rfl, rfl, trivial⟩ ?_
    rw [all2] at hc25
    have ho := Decidable.not_not.1 hc25
    exact ⟨ali_tup (q := none) (aliQ_no2 ho hmk3219 hmk3928) (aliE_no2 ho hmk3219 hmk3928), S59.le⟩
  have S61 := S14.step hl3219
  refine l_x rfl (x_mv rfl) ?_
  refine l_x rfl (x_extract rfl rfl) ?_
  refine l_x rfl (x_extract rfl rfl) ?_
  refine l_alloc S61 rfl Tryz.zeroValue39 rfl ?_
  intro b65 w62 S63 hl64
  refine l_stores (vs := [_, _, _, _, _, _, _, _, _]) S63 3 rfl rfl rfl rfl (ones_cons rfl (ones_cons rfl (ones_cons rfl (ones_cons rfl (ones_cons rfl (ones_cons rfl (ones_cons rfl (ones_cons rfl (ones_cons rfl ones_nil))))))))) Tryz.sizeOf39 (by first | exact Nat.le_refl _ | simp) (splice_all rfl) ?_
  intro w66 S67 hk68
  refine l_x rfl (x_as rfl) ?_
  refine l_nil ?_
  refine r_seq ?_
  refine r_region ?_
  refine l_x rfl (x_load rfl (ld_blks (S67.blk 0 rfl) Tryz.isAgg25 Tryz.sizeOf25 rfl rfl)) ?_
  refine l_x rfl (x_mv rfl) ?_
  refine l_x rfl (x_mv rfl) ?_
  refine l_call [] [] [_, _, _] rfl rfl Tryz.call105 rfl (c_rmark b vm vf day y _ (hB.le S67.le)) ?_
  rintro _ w69 (⟨my, rfl, hmk3969, hl3969⟩ | ⟨rfl, hmk3969, hl3969⟩)
  · skip
    have S70 := S67.step hl3969
    refine l_x rfl (x_mv rfl) ?_
    refine l_x rfl (x_extract rfl rfl) ?_
    refine l_x rfl (x_extract rfl rfl) ?_
    refine l_alloc S70 rfl Tryz.zeroValue39 rfl ?_
    intro b74 w71 S72 hl73
    refine l_stores (vs := [_, _, _, _, _, _, _, _, _]) S72 4 rfl rfl rfl rfl (ones_cons rfl (ones_cons rfl (ones_cons rfl (ones_cons rfl (ones_cons rfl (ones_cons rfl (ones_cons rfl (ones_cons rfl (ones_cons rfl ones_nil))))))))) Tryz.sizeOf39 (by first | exact Nat.le_refl _ | simp) (splice_all rfl) ?_
    intro w75 S76 hk77
    refine l_x rfl (x_as rfl) ?_
    refine l_nil ?_
    refine r_seq ?_
    refine r_seq ?_
    refine r_region ?_
    refine l_x rfl (x_mv rfl) ?_
    refine l_x rfl (x_not rfl) ?_
    refine l_x rfl (x_mv rfl) ?_
    refine l_pass rfl ?_
    refine l_pass rfl ?_
    refine l_x rfl (x_pick_t rfl rfl) ?_
    refine l_nil ?_
    refine r_true rfl ?_
    refine r_seq ?_
    refine r_region ?_
    refine l_x rfl (x_buildS (out := [_, _, _, _, _, _]) (ss := [6]) Tryz.zeroValue30 rfl Tryz.runUnderlying30 ⟨Tryz.sizeOf28, trivial⟩ fill_nil) ?_
    refine l_stores (vs := [_, _, _, _, _, _]) S76 1 rfl rfl rfl rfl (ones_cons rfl (ones_cons rfl (ones_cons rfl (ones_cons rfl (ones_cons rfl (ones_cons rfl ones_nil)))))) Tryz.sizeOf30 (by first | exact Nat.le_refl _ | simp) (splice_all rfl) ?_
    intro w78 S79 hk80
    refine l_x rfl (x_as rfl) ?_
    refine l_x rfl (x_as rfl) ?_
    refine l_nil ?_
    refine r_ret (rs := [.cell 8 30, .tmp 9, .tmp 10]) [_, _, _] Tryz.func54 rfl ⟨⟨_, rfl, (ld_blks (S79.blk 1 rfl) Tryz.isAgg30 Tryz.sizeOf30 rfl rfl)⟩, rfl, rfl, trivial⟩ ?_
    rw [all2] at hc25
    have ho := Decidable.not_not.1 hc25
    exact ⟨ali_tup (q := none) (aliQ_no1 ho hmk3219) (aliE_no1 ho hmk3219), S79.le⟩
  have S81 := S67.step hl3969
  refine l_x rfl (x_mv rfl) ?_
  refine l_x rfl (x_extract rfl rfl) ?_
  refine l_x rfl (x_extract rfl rfl) ?_
  refine l_alloc S81 rfl Tryz.zeroValue39 rfl ?_
  intro b85 w82 S83 hl84
  refine l_stores (vs := [_, _, _, _, _, _, _, _, _]) S83 4 rfl rfl rfl rfl (ones_cons rfl (ones_cons rfl (ones_cons rfl (ones_cons rfl (ones_cons rfl (ones_cons rfl (ones_cons rfl (ones_cons rfl (ones_cons rfl ones_nil))))))))) Tryz.sizeOf39 (by first | exact Nat.le_refl _ | simp) (splice_all rfl) ?_
  intro w86 S87 hk88
  refine l_x rfl (x_as rfl) ?_
  refine l_nil ?_
  refine r_seq ?_
  refine r_seq ?_
  refine r_region ?_
  refine l_x rfl (x_mv rfl) ?_
  refine l_x rfl (x_not rfl) ?_
  refine l_x rfl (x_mv rfl) ?_
  refine l_pass rfl ?_
  refine l_pass rfl ?_
  refine l_x rfl (x_pick_t rfl rfl) ?_
  refine l_nil ?_
  refine r_true rfl ?_
  refine r_seq ?_
  refine r_region ?_
  refine l_x rfl (x_buildS (out := [_, _, _, _, _, _]) (ss := [6]) Tryz.zeroValue30 rfl Tryz.runUnderlying30 ⟨Tryz.sizeOf28, trivial⟩ fill_nil) ?_
  refine l_stores (vs := [_, _, _, _, _, _]) S87 1 rfl rfl rfl rfl (ones_cons rfl (ones_cons rfl (ones_cons rfl (ones_cons rfl (ones_cons rfl (ones_cons rfl ones_nil)))))) Tryz.sizeOf30 (by first | exact Nat.le_refl _ | simp) (splice_all rfl) ?_
  intro w89 S90 hk91
  refine l_x rfl (x_as rfl) ?_
  refine l_x rfl (x_as rfl) ?_
  refine l_nil ?_
  refine r_ret (rs := [.cell 8 30, .tmp 9, .tmp 10]) [_, _, _] Tryz.func54 rfl ⟨⟨_, rfl, (ld_blks (S90.blk 1 rfl) Tryz.isAgg30 Tryz.sizeOf30 rfl rfl)⟩, rfl, rfl, trivial⟩ ?_
  rw [all2] at hc25
  have ho := Decidable.not_not.1 hc25
  exact ⟨ali_tup (q := none) (aliQ_no1 ho hmk3219) (aliE_no1 ho hmk3219), S90.le⟩

set_option maxHeartbeats 4000000 in
/-- couchant/couchantref03.Mistaken. -/
theorem c_rMistaken (b : Sm) (vm vf : Value) (day : Int) (w : World) (hB : SmR 39 41 w vm vf b) :
    Cl Tryz.prog 55 #[.agg #[vm, vf], Value.int .i64 day] w fun v w' => (∃ e, e ≠ 0 ∧ v = .tuple #[.slice none 0 0, .int .i64 e] ∧ e = openE b day true ∧ Le w w') ∨ (∃ s, v = .tuple #[s, .int .i64 0] ∧ openE b day true = 0 ∧ New w w' (vec EPR s (mistaken b day)) ∧ Le w w') := by
  refine fn_of_run (args := [_, _]) 67 Tryz.func55 rfl rfl rfl fun cs => ?_
  have S := Own.start (X := nob) w
  refine r_seq ?_
  refine r_region ?_
  refine l_box S rfl rfl ?_
  intro b4 w1 S2 hl3
  refine l_x rfl (x_as rfl) ?_
  refine l_x rfl (x_as rfl) ?_
  refine l_nil ?_
  refine r_seq ?_
  refine r_region ?_
  refine l_x rfl (x_load rfl (ld_blks (S2.blk 0 rfl) Tryz.isAgg25 Tryz.sizeOf25 rfl rfl)) ?_
  refine l_x rfl (x_mv rfl) ?_
  refine l_call [] [] [_, _] rfl rfl Tryz.call34 rfl (c_rInForce b vm vf day _ (hB.le S2.le)) ?_
  rintro _ w5 (⟨x1, hx1, rfl, hqx1, hl165⟩ | ⟨vl, rfl, ho1, hN165, hl165⟩)
  · skip
    have S6 := S2.step hl165
    refine l_x rfl (x_mv rfl) ?_
    refine l_x rfl (x_extract rfl rfl) ?_
    refine l_x rfl (x_extract rfl rfl) ?_
    refine l_x rfl (x_as rfl) ?_
    refine l_x rfl (x_as rfl) ?_
    refine l_nil ?_
    refine r_seq ?_
    refine r_seq ?_
    refine r_region ?_
    refine l_x rfl (x_mv rfl) ?_
    refine l_x rfl (x_neq rfl rfl) ?_
    refine l_nil ?_
    refine r_ifd rfl (fun hc20 => ?_) (fun hc20 => ?_)
    · skip
      refine r_seq ?_
      refine r_region ?_
      refine l_x rfl (x_mv rfl) ?_
      refine l_x rfl (x_as rfl) ?_
      refine l_x rfl (x_as rfl) ?_
      refine l_nil ?_
      refine r_ret (rs := [.tmp 4, .tmp 5]) [_, _] Tryz.func55 rfl ⟨rfl, rfl, trivial⟩ ?_
      exact .inl ⟨x1, hx1, rfl, hqx1, S6.le⟩
    exact absurd hx1 hc20
  have S7 := S2.add hl165 hN165
  refine l_x rfl (x_mv rfl) ?_
  refine l_x rfl (x_extract rfl rfl) ?_
  refine l_x rfl (x_extract rfl rfl) ?_
  refine l_x rfl (x_as rfl) ?_
  refine l_x rfl (x_as rfl) ?_
  refine l_nil ?_
  refine r_seq ?_
  refine r_seq ?_
  refine r_region ?_
  refine l_x rfl (x_mv rfl) ?_
  refine l_x rfl (x_neq rfl rfl) ?_
  refine l_nil ?_
  refine r_ifd rfl (fun hc20 => ?_) (fun hc20 => ?_)
  · exact absurd rfl hc20
  have hfl := force_len9 ho1
  refine r_skip ?_
  refine r_seq ?_
  refine r_region ?_
  refine l_x rfl (x_as rfl) ?_
  have S8 := S7.nilvec (E := EPR)
  refine l_nil ?_
  refine r_seq ?_
  refine r_seq ?_
  refine r_region ?_
  refine l_x rfl (x_as rfl) ?_
  refine l_nil ?_
  refine r_block ?_
  refine r_loop (G := Nat × Value) (fun ⟨i, vo⟩ => (force b day).length - i) (fun ⟨i, vo⟩ => [(2, .pointer (some ⟨b4, 0, none⟩)), (6, vl), (8, vo), (9, Value.int .i64 i)]) (fun ⟨i, vo⟩ w' => (i ≤ (force b day).length) ∧ Own nob w w' [blk b4 [vm, vf] 25, vec EMK vl (force b day), vec EPR vo (misP b day i)]) (0, .slice none 0 0) ⟨rfl, rfl, rfl, rfl, trivial⟩ ⟨Nat.zero_le _, (S8.pick [0, 1, 2] (by decide) rfl)⟩ ?_
  rintro ⟨i, vo⟩ ρ w1 ⟨hi, S1⟩ IH
  refine r_seq ?_
  refine r_seq ?_
  refine r_region ?_
  refine l_x rfl (x_mv rfl) ?_
  refine l_x rfl (x_mv rfl) ?_
  refine l_x rfl (x_len (vec_rd (S1.at 1 rfl)) rfl Tryz.runUnderlying22) ?_
  refine l_x rfl (x_lss rfl rfl) ?_
  refine l_nil ?_
  refine r_ifd rfl (fun hc25 => ?_) (fun hc25 => ?_)
  · skip
    obtain ⟨a, ha⟩ : ∃ a, (force b day)[i]? = some a := ⟨_, List.getElem?_eq_getElem (by omega)⟩
    have hml := mis_len (b := b) (day := day) (i := i) hfl
    have hdl : ((force b day).drop (i + 1)).length = (force b day).length - (i + 1) := List.length_drop
    refine r_skip ?_
    refine r_seq ?_
    refine r_block ?_
    refine r_seq ?_
    refine r_region ?_
    refine l_x rfl (x_mv rfl) ?_
    refine l_x rfl (x_add rfl rfl (by omega)) ?_
    refine l_x rfl (x_as rfl) ?_
    refine l_nil ?_
    refine r_block ?_
    refine r_loop (G := Nat × Value) (fun ⟨j, vo2⟩ => ((force b day).drop (i + 1)).length - j) (fun ⟨j, vo2⟩ => [(2, .pointer (some ⟨b4, 0, none⟩)), (6, vl), (8, vo2), (9, Value.int .i64 i), (10, Value.int .i64 ((i + 1 + j : Nat) : Int))]) (fun ⟨j, vo2⟩ w' => (j ≤ ((force b day).drop (i + 1)).length) ∧ Own nob w w' [blk b4 [vm, vf] 25, vec EMK vl (force b day), vec EPR vo2 (misP b day i ++ rowP b a ((force b day).drop (i + 1)) j)]) (0, vo) ⟨rfl, rfl, rfl, rfl, rfl, trivial⟩ ⟨Nat.zero_le _, (by have h := S1.take 3; rw [row_zero, List.append_nil]; exact h)⟩ ?_
    rintro ⟨j, vo2⟩ ρ w1b ⟨hj, S1b⟩ IHb
    refine r_seq ?_
    refine r_seq ?_
    refine r_region ?_
    refine l_x rfl (x_mv rfl) ?_
    refine l_x rfl (x_mv rfl) ?_
    refine l_x rfl (x_len (vec_rd (S1b.at 1 rfl)) rfl Tryz.runUnderlying22) ?_
    refine l_x rfl (x_lss rfl rfl) ?_
    refine l_nil ?_
    refine r_ifd rfl (fun hc33 => ?_) (fun hc33 => ?_)
    · skip
      obtain ⟨n, hn⟩ : ∃ n, ((force b day).drop (i + 1))[j]? = some n := ⟨_, List.getElem?_eq_getElem (by omega)⟩
      have hn2 : (force b day)[((i + 1 + j : Nat) : Int).toNat]? = some n := by rw [Int.toNat_natCast, ← List.getElem?_drop]; exact hn
      have hrl := row_len (b := b) (m := a) (l := ((force b day).drop (i + 1))) (j := j)
      refine r_skip ?_
      refine r_seq ?_
      refine r_block ?_
      refine r_seq ?_
      refine r_drawE 18 (yng w1b) Tryz.mixed (by kernel_rfl) ?_
      intro w9 hl10
      have S11 := S1b.step hl10
      have hy12 : Keep (yng w1b) w1b w9 := .of_le hl10
      refine e_exact 0 _ (by kernel_rfl) rfl rfl (by kernel_rfl) rfl (ex_x rfl (fun w1 h1 => x_load rfl (ld_blks ((S1b.yng (hy12.trans h1)).blk 0 rfl) Tryz.isAgg25 Tryz.sizeOf25 rfl rfl))) ?_
      refine e_exact 1 _ (by kernel_rfl) rfl rfl (by kernel_rfl) rfl (ex_x rfl (fun w1 h1 => x_mv rfl)) ?_
      refine e_exact 2 _ (by kernel_rfl) rfl rfl (by kernel_rfl) rfl (ex_x rfl (fun w1 h1 => x_mv rfl)) ?_
      refine e_index EMK 3 (by kernel_rfl) rfl rfl (by kernel_rfl) rfl rfl (vec_rd (S11.at 1 rfl)) rfl rfl Tryz.runUnderlying22 Tryz.sizeOf39 (by omega) ha ?_
      intro b13 o14 hat15
      refine e_exact 4 _ (by kernel_rfl) rfl rfl (by kernel_rfl) rfl (ex_x rfl (fun w1 h1 => x_fieldAddr rfl Tryz.runUnderlying39 rfl Tryz.sizeOf28 (by decide))) ?_
      refine e_exact 5 _ (by kernel_rfl) rfl rfl (by kernel_rfl) rfl (ex_x rfl (fun w1 h1 => x_load rfl (ld_part (f := 3) Tryz.isAgg28 Tryz.sizeOf28 rfl rfl (rd_row (vec_rd ((S1b.yng (hy12.trans h1)).at 1 rfl)) hat15 ha)))) ?_
      refine e_exact 6 _ (by kernel_rfl) rfl rfl (by kernel_rfl) rfl (ex_x rfl (fun w1 h1 => x_mv rfl)) ?_
      refine e_exact 7 _ (by kernel_rfl) rfl rfl (by kernel_rfl) rfl (ex_x rfl (fun w1 h1 => x_mv rfl)) ?_
      refine e_index EMK 8 (by kernel_rfl) rfl rfl (by kernel_rfl) rfl rfl (vec_rd (S11.at 1 rfl)) rfl rfl Tryz.runUnderlying22 Tryz.sizeOf39 (by omega) hn2 ?_
      intro b16 o17 hat18
      refine e_exact 9 _ (by kernel_rfl) rfl rfl (by kernel_rfl) rfl (ex_x rfl (fun w1 h1 => x_fieldAddr rfl Tryz.runUnderlying39 rfl Tryz.sizeOf28 (by decide))) ?_
      refine e_exact 10 _ (by kernel_rfl) rfl rfl (by kernel_rfl) rfl (ex_x rfl (fun w1 h1 => x_load rfl (ld_part (f := 3) Tryz.isAgg28 Tryz.sizeOf28 rfl rfl (rd_row (vec_rd ((S1b.yng (hy12.trans h1)).at 1 rfl)) hat18 hn2)))) ?_
      refine e_next [11, 15] (by kernel_rfl) (by kernel_rfl) ⟨⟨_, _, rfl, rfl, ?_⟩, ⟨_, _, rfl, rfl, ?_⟩, trivial⟩
      · skip
        refine s_callf [] [] [_, _, _] rfl rfl Tryz.call77 rfl ((c_rcommon b vm vf a.s n.s _ (hB.le S11.le)).mono ?_)
        rintro _ w19 ⟨rfl, hl21⟩
        have S20 := S11.step hl21
        refine ⟨.of_le hl21, ?_⟩
        have hy22 : Keep (yng w1b) w1b w19 := hy12.trans (Keep.of_le hl21)
        refine e_exact 12 _ (by kernel_rfl) rfl rfl (by kernel_rfl) rfl (ex_x rfl (fun w1 h1 => x_mv rfl)) ?_
        refine e_exact 13 _ (by kernel_rfl) rfl rfl (by kernel_rfl) rfl (ex_x rfl (fun w1 h1 => x_extract rfl rfl)) ?_
        refine e_exact 14 _ (by kernel_rfl) rfl rfl (by kernel_rfl) rfl (ex_x rfl (fun w1 h1 => x_extract rfl rfl)) ?_
        refine e_next [15] (by kernel_rfl) (by kernel_rfl) ⟨⟨_, _, rfl, rfl, ?_⟩, trivial⟩
        refine s_allocY S20 rfl Tryz.zeroValue30 rfl ?_
        intro b26 w23 S24 hl25 hb27
        refine ⟨.of_le hl25, ?_⟩
        have hy28 : Keep (yng w1b) w1b w23 := hy22.trans (Keep.of_le hl25)
        refine e_next [16] (by kernel_rfl) (by kernel_rfl) ⟨⟨_, _, rfl, rfl, ?_⟩, trivial⟩
        refine s_stores (vs := [_, _, _, _, _, _]) S24 3 rfl rfl rfl rfl (ones_cons rfl (ones_cons rfl (ones_cons rfl (ones_cons rfl (ones_cons rfl (ones_cons rfl ones_nil)))))) Tryz.sizeOf30 (by first | exact Nat.le_refl _ | simp) (splice_all rfl) ?_
        intro w29 S30 hk31
        refine ⟨(yng_blk hy22 hb27 hk31), ?_⟩
        have hy32 : Keep (yng w1b) w1b w29 := hy28.trans ((yng_blk hy22 hb27 hk31))
        refine e_exact 17 _ (by kernel_rfl) rfl rfl (by kernel_rfl) rfl (ex_x rfl (fun w1 h1 => x_as rfl)) ?_
        refine e_done (by kernel_rfl) ?_
        refine l_nil ?_
        refine r_seq ?_
        refine r_region ?_
        refine l_x rfl (x_mv rfl) ?_
        refine l_nil ?_
        refine r_if rfl (fun hc51 => ?_) (fun hc51 => ?_)
        · skip
          refine r_drawE 13 nob Tryz.mixed (by kernel_rfl) ?_
          intro w33 hl34
          have S35 := S30.step hl34
          refine e_exact 0 _ (by kernel_rfl) rfl rfl (by kernel_rfl) rfl (ex_x rfl (fun w1 h1 => x_mv rfl)) ?_
          refine e_exact 1 _ (by kernel_rfl) rfl rfl (by kernel_rfl) rfl (ex_x rfl (fun w1 h1 => x_mv rfl)) ?_
          refine e_exact 2 _ (by kernel_rfl) rfl rfl (by kernel_rfl) rfl (ex_x rfl (fun w1 h1 => x_mv rfl)) ?_
          refine e_index EMK 3 (by kernel_rfl) rfl rfl (by kernel_rfl) rfl rfl (vec_rd (S35.at 1 rfl)) rfl rfl Tryz.runUnderlying22 Tryz.sizeOf39 (by omega) ha ?_
          intro b36 o37 hat38
          refine e_exact 4 _ (by kernel_rfl) rfl rfl (by kernel_rfl) rfl (ex_x rfl (fun w1 h1 => x_fieldAddr rfl Tryz.runUnderlying39 rfl Tryz.sizeOf3 (by decide))) ?_
          refine e_exact 5 _ (by kernel_rfl) rfl rfl (by kernel_rfl) rfl (ex_x rfl (fun w1 h1 => x_load rfl (ld_cell Tryz.isAgg3 ((rd_row (vec_rd ((S35.step h1).at 1 rfl)) hat38 ha) 0 _ rfl)))) ?_
          refine e_exact 6 _ (by kernel_rfl) rfl rfl (by kernel_rfl) rfl (ex_x rfl (fun w1 h1 => x_mv rfl)) ?_
          refine e_exact 7 _ (by kernel_rfl) rfl rfl (by kernel_rfl) rfl (ex_x rfl (fun w1 h1 => x_mv rfl)) ?_
          refine e_index EMK 8 (by kernel_rfl) rfl rfl (by kernel_rfl) rfl rfl (vec_rd (S35.at 1 rfl)) rfl rfl Tryz.runUnderlying22 Tryz.sizeOf39 (by omega) hn2 ?_
          intro b39 o40 hat41
          refine e_exact 9 _ (by kernel_rfl) rfl rfl (by kernel_rfl) rfl (ex_x rfl (fun w1 h1 => x_fieldAddr rfl Tryz.runUnderlying39 rfl Tryz.sizeOf3 (by decide))) ?_
          refine e_exact 10 _ (by kernel_rfl) rfl rfl (by kernel_rfl) rfl (ex_x rfl (fun w1 h1 => x_load rfl (ld_cell Tryz.isAgg3 ((rd_row (vec_rd ((S35.step h1).at 1 rfl)) hat41 hn2) 0 _ rfl)))) ?_
          refine e_exact 11 _ (by kernel_rfl) rfl rfl (by kernel_rfl) rfl (ex_x rfl (fun w1 h1 => x_buildS (out := [_, _]) (ss := [1, 1]) Tryz.zeroValue48 rfl Tryz.runUnderlying48 ⟨Tryz.sizeOf3, Tryz.sizeOf3, trivial⟩ (fill_cons rfl rfl rfl (Nat.le_of_ble_eq_true rfl) (fill_cons rfl rfl rfl (Nat.le_of_ble_eq_true rfl) fill_nil)))) ?_
          refine e_next [12] (by kernel_rfl) (by kernel_rfl) ⟨⟨_, _, rfl, rfl, ?_⟩, trivial⟩
          refine s_buildSlice EPR [(a.owner, n.owner)] S35 rfl Tryz.runUnderlying43 Tryz.sizeOf48 Tryz.zeroValue48 rfl ⟨rfl, rfl, trivial⟩ (by decide) ?_
          intro v45 w42 S43 hl44
          refine ⟨.of_le hl44, ?_⟩
          refine e_done (by kernel_rfl) ?_
          refine l_append EPR S43 2 rfl rfl rfl rfl (vec_rd (S43.at 4 rfl)) Tryz.underlying43 info48 rfl rfl rfl (by unfold maxLen; rw [List.length_append, List.length_singleton]; omega) (by rw [List.length_append, List.length_singleton]; show _ * 16 ≤ _; omega) ?_
          intro v49 w46 S47 hk48 hv50
          refine l_x rfl (x_as rfl) ?_
          refine l_nil ?_
          refine r_inBlock ?_
          refine r_region ?_
          refine l_x rfl (x_mv rfl) ?_
          refine l_x rfl (x_add rfl rfl (by omega)) ?_
          refine l_x rfl (x_as rfl) ?_
          refine l_nil ?_
          exact IHb (j + 1, v49) _ _ (by dsimp only; omega) ⟨rfl, rfl, rfl, rfl, (congrArg (Value.int .i64) (by omega)), trivial⟩ ⟨by omega, (by have h := S47.take 3; rw [row_yes hn hc51, ← List.append_assoc]; exact h)⟩
        refine r_skip ?_
        refine r_inBlock ?_
        refine r_region ?_
        refine l_x rfl (x_mv rfl) ?_
        refine l_x rfl (x_add rfl rfl (by omega)) ?_
        refine l_x rfl (x_as rfl) ?_
        refine l_nil ?_
        exact IHb (j + 1, vo2) _ _ (by dsimp only; omega) ⟨rfl, rfl, rfl, rfl, (congrArg (Value.int .i64) (by omega)), trivial⟩ ⟨by omega, (by have h := S30.take 3; rw [row_no hn hc51]; exact h)⟩
      refine s_allocY S11 rfl Tryz.zeroValue30 rfl ?_
      intro b54 w51 S52 hl53 hb55
      refine ⟨.of_le hl53, ?_⟩
      have hy56 : Keep (yng w1b) w1b w51 := hy12.trans (Keep.of_le hl53)
      refine e_next [11] (by kernel_rfl) (by kernel_rfl) ⟨⟨_, _, rfl, rfl, ?_⟩, trivial⟩
      refine s_callf [] [] [_, _, _] rfl rfl Tryz.call77 rfl ((c_rcommon b vm vf a.s n.s _ (hB.le S52.le)).mono ?_)
      rintro _ w57 ⟨rfl, hl59⟩
      have S58 := S52.step hl59
      refine ⟨.of_le hl59, ?_⟩
      have hy60 : Keep (yng w1b) w1b w57 := hy56.trans (Keep.of_le hl59)
      refine e_exact 12 _ (by kernel_rfl) rfl rfl (by kernel_rfl) rfl (ex_x rfl (fun w1 h1 => x_mv rfl)) ?_
      refine e_exact 13 _ (by kernel_rfl) rfl rfl (by kernel_rfl) rfl (ex_x rfl (fun w1 h1 => x_extract rfl rfl)) ?_
      refine e_exact 14 _ (by kernel_rfl) rfl rfl (by kernel_rfl) rfl (ex_x rfl (fun w1 h1 => x_extract rfl rfl)) ?_
      refine e_next [16] (by kernel_rfl) (by kernel_rfl) ⟨⟨_, _, rfl, rfl, ?_⟩, trivial⟩
      refine s_stores (vs := [_, _, _, _, _, _]) S58 3 rfl rfl rfl rfl (ones_cons rfl (ones_cons rfl (ones_cons rfl (ones_cons rfl (ones_cons rfl (ones_cons rfl ones_nil)))))) Tryz.sizeOf30 (by first | exact Nat.le_refl _ | simp) (splice_all rfl) ?_
      intro w61 S62 hk63
      refine ⟨(yng_blk hy12 hb55 hk63), ?_⟩
      have hy64 : Keep (yng w1b) w1b w61 := hy60.trans ((yng_blk hy12 hb55 hk63))
      refine e_exact 17 _ (by kernel_rfl) rfl rfl (by kernel_rfl) rfl (ex_x rfl (fun w1 h1 => x_as rfl)) ?_
      refine e_done (by kernel_rfl) ?_
      refine l_nil ?_
      refine r_seq ?_
      refine r_region ?_
      refine l_x rfl (x_mv rfl) ?_
      refine l_nil ?_
      refine r_if rfl (fun hc51 => ?_) (fun hc51 => ?_)
      · skip
        refine r_drawE 13 nob Tryz.mixed (by kernel_rfl) ?_
        intro w65 hl66
        have S67 := S62.step hl66
        refine e_exact 0 _ (by kernel_rfl) rfl rfl (by kernel_rfl) rfl (ex_x rfl (fun w1 h1 => x_mv rfl)) ?_
        refine e_exact 1 _ (by kernel_rfl) rfl rfl (by kernel_rfl) rfl (ex_x rfl (fun w1 h1 => x_mv rfl)) ?_
        refine e_exact 2 _ (by kernel_rfl) rfl rfl (by kernel_rfl) rfl (ex_x rfl (fun w1 h1 => x_mv rfl)) ?_
        refine e_index EMK 3 (by kernel_rfl) rfl rfl (by kernel_rfl) rfl rfl (vec_rd (S67.at 1 rfl)) rfl rfl Tryz.runUnderlying22 Tryz.sizeOf39 (by omega) ha ?_
        intro b68 o69 hat70
        refine e_exact 4 _ (by kernel_rfl) rfl rfl (by kernel_rfl) rfl (ex_x rfl (fun w1 h1 => x_fieldAddr rfl Tryz.runUnderlying39 rfl Tryz.sizeOf3 (by decide))) ?_
        refine e_exact 5 _ (by kernel_rfl) rfl rfl (by kernel_rfl) rfl (ex_x rfl (fun w1 h1 => x_load rfl (ld_cell Tryz.isAgg3 ((rd_row (vec_rd ((S67.step h1).at 1 rfl)) hat70 ha) 0 _ rfl)))) ?_
        refine e_exact 6 _ (by kernel_rfl) rfl rfl (by kernel_rfl) rfl (ex_x rfl (fun w1 h1 => x_mv rfl)) ?_
        refine e_exact 7 _ (by kernel_rfl) rfl rfl (by kernel_rfl) rfl (ex_x rfl (fun w1 h1 => x_mv rfl)) ?_
        refine e_index EMK 8 (by kernel_rfl) rfl rfl (by kernel_rfl) rfl rfl (vec_rd (S67.at 1 rfl)) rfl rfl Tryz.runUnderlying22 Tryz.sizeOf39 (by omega) hn2 ?_
        intro b71 o72 hat73
        refine e_exact 9 _ (by kernel_rfl) rfl rfl (by kernel_rfl) rfl (ex_x rfl (fun w1 h1 => x_fieldAddr rfl Tryz.runUnderlying39 rfl Tryz.sizeOf3 (by decide))) ?_
        refine e_exact 10 _ (by kernel_rfl) rfl rfl (by kernel_rfl) rfl (ex_x rfl (fun w1 h1 => x_load rfl (ld_cell Tryz.isAgg3 ((rd_row (vec_rd ((S67.step h1).at 1 rfl)) hat73 hn2) 0 _ rfl)))) ?_
        refine e_exact 11 _ (by kernel_rfl) rfl rfl (by kernel_rfl) rfl (ex_x rfl (fun w1 h1 => x_buildS (out := [_, _]) (ss := [1, 1]) Tryz.zeroValue48 rfl Tryz.runUnderlying48 ⟨Tryz.sizeOf3, Tryz.sizeOf3, trivial⟩ (fill_cons rfl rfl rfl (Nat.le_of_ble_eq_true rfl) (fill_cons rfl rfl rfl (Nat.le_of_ble_eq_true rfl) fill_nil)))) ?_
        refine e_next [12] (by kernel_rfl) (by kernel_rfl) ⟨⟨_, _, rfl, rfl, ?_⟩, trivial⟩
        refine s_buildSlice EPR [(a.owner, n.owner)] S67 rfl Tryz.runUnderlying43 Tryz.sizeOf48 Tryz.zeroValue48 rfl ⟨rfl, rfl, trivial⟩ (by decide) ?_
        intro v77 w74 S75 hl76
        refine ⟨.of_le hl76, ?_⟩
        refine e_done (by kernel_rfl) ?_
        refine l_append EPR S75 2 rfl rfl rfl rfl (vec_rd (S75.at 4 rfl)) Tryz.underlying43 info48 rfl rfl rfl (by unfold maxLen; rw [List.length_append, List.length_singleton]; omega) (by rw [List.length_append, List.length_singleton]; show _ * 16 ≤ _; omega) ?_
        intro v81 w78 S79 hk80 hv82
        refine l_x rfl (x_as rfl) ?_
        refine l_nil ?_
        refine r_inBlock ?_
        refine r_region ?_
        refine l_x rfl (x_mv rfl) ?_
        refine l_x rfl (x_add rfl rfl (by omega)) ?_
        refine l_x rfl (x_as rfl) ?_
        refine l_nil ?_
        exact IHb (j + 1, v81) _ _ (by dsimp only; omega) ⟨rfl, rfl, rfl, rfl, (congrArg (Value.int .i64) (by omega)), trivial⟩ ⟨by omega, (by have h := S79.take 3; rw [row_yes hn hc51, ← List.append_assoc]; exact h)⟩
      refine r_skip ?_
      refine r_inBlock ?_
      refine r_region ?_
      refine l_x rfl (x_mv rfl) ?_
      refine l_x rfl (x_add rfl rfl (by omega)) ?_
      refine l_x rfl (x_as rfl) ?_
      refine l_nil ?_
      exact IHb (j + 1, vo2) _ _ (by dsimp only; omega) ⟨rfl, rfl, rfl, rfl, (congrArg (Value.int .i64) (by omega)), trivial⟩ ⟨by omega, (by have h := S62.take 3; rw [row_no hn hc51]; exact h)⟩
    obtain rfl : j = ((force b day).drop (i + 1)).length := by omega
    refine r_exit rfl ?_
    refine r_inBlock ?_
    refine r_region ?_
    refine l_x rfl (x_mv rfl) ?_
    refine l_x rfl (x_add rfl rfl (by omega)) ?_
    refine l_x rfl (x_as rfl) ?_
    refine l_nil ?_
    exact IH (i + 1, vo2) _ _ (by dsimp only; omega) ⟨rfl, rfl, rfl, rfl, trivial⟩ ⟨by omega, (by have h := S1b.take 3; rw [← mis_step ha rfl]; exact h)⟩
  obtain rfl : i = (force b day).length := by omega
  refine r_exit rfl ?_
  refine r_seq ?_
  refine r_region ?_
  refine l_x rfl (x_mv rfl) ?_
  refine l_x rfl (x_as rfl) ?_
  refine l_x rfl (x_as rfl) ?_
  refine l_nil ?_
  refine r_ret (rs := [.tmp 4, .tmp 5]) [_, _] Tryz.func55 rfl ⟨rfl, rfl, trivial⟩ ?_
  exact .inr ⟨_, rfl, ho1, S1.new 2 rfl, S1.le⟩

set_option maxHeartbeats 4000000 in
/-- couchant/couchantref03.Apart. -/
theorem c_rApart (b : Sm) (vm vf : Value) (x y : Sg) (w : World) (hB : SmR 39 41 w vm vf b) :
    Cl Tryz.prog 56 #[.agg #[vm, vf], Value.agg (encSg x).toArray, Value.agg (encSg y).toArray] w fun v w' => (∃ e, e ≠ 0 ∧ v = .tuple #[.int .i64 0, .int .i64 e] ∧ e = aprE b x y ∧ Le w w') ∨ (v = .tuple #[.int .i64 (apart b x y), .int .i64 0] ∧ aprE b x y = 0 ∧ Le w w') := by
  refine fn_of_run (args := [_, _, _]) 62 Tryz.func56 rfl rfl rfl fun cs => ?_
  have S := Own.start (X := nob) w
  refine r_seq ?_
  refine r_region ?_
  refine l_box S rfl rfl ?_
  intro b4 w1 S2 hl3
  refine l_box S2 rfl rfl ?_
  intro b8 w5 S6 hl7
  refine l_box S6 rfl rfl ?_
  intro b12 w9 S10 hl11
  refine l_x rfl (x_as rfl) ?_
  refine l_x rfl (x_as rfl) ?_
  refine l_nil ?_
  refine r_seq ?_
  refine r_region ?_
  refine l_x rfl (x_load rfl (ld_blks (S10.blk 0 rfl) Tryz.isAgg25 Tryz.sizeOf25 rfl rfl)) ?_
  refine l_call [] [] [_] rfl rfl Tryz.call38 rfl (c_rCheck b vm vf _ (hB.le S10.le)) ?_
  rintro _ w13 ⟨rfl, hl15⟩
  have S14 := S10.step hl15
  refine l_x rfl (x_as rfl) ?_
  refine l_nil ?_
  refine r_seq ?_
  refine r_seq ?_
  refine r_region ?_
  refine l_x rfl (x_mv rfl) ?_
  refine l_x rfl (x_neq rfl rfl) ?_
  refine l_nil ?_
  refine r_ifd rfl (fun hc16 => ?_) (fun hc16 => ?_)
  · skip
    refine r_seq ?_
    refine r_region ?_
    refine l_x rfl (x_mv rfl) ?_
    refine l_x rfl (x_as rfl) ?_
    refine l_x rfl (x_as rfl) ?_
    refine l_nil ?_
    refine r_ret (rs := [.tmp 6, .tmp 7]) [_, _] Tryz.func56 rfl ⟨rfl, rfl, trivial⟩ ?_
    exact .inl ⟨checkS b, hc16, rfl, aprE_1 hc16, S14.le⟩
  refine r_skip ?_
  refine r_seq ?_
  refine r_seq ?_
  refine r_region ?_
  refine l_x rfl (x_fieldAddr rfl Tryz.runUnderlying30 rfl Tryz.sizeOf28 (by decide)) ?_
  refine l_x rfl (x_load rfl (ld_blks (S14.blk 1 rfl) Tryz.isAgg28 Tryz.sizeOf28 rfl rfl)) ?_
  refine l_call [] [] [_] rfl rfl Tryz.call123 rfl (c_rsigns _ _) ?_
  rintro _ w16 ⟨rfl, hl18⟩
  have S17 := S14.step hl18
  refine l_x rfl (x_not rfl) ?_
  refine l_x rfl (x_mv rfl) ?_
  refine l_split (d := 22) rfl (fun hg22 => ?_) (fun hg22 => ?_)
  · skip
    refine l_pass rfl ?_
    refine l_pass rfl ?_
    refine l_pass rfl ?_
    refine l_pass rfl ?_
    refine l_x rfl (x_pick_t rfl rfl) ?_
    refine l_nil ?_
    refine r_true rfl ?_
    refine r_seq ?_
    refine r_region ?_
    refine l_x rfl (x_as rfl) ?_
    refine l_x rfl (x_as rfl) ?_
    refine l_nil ?_
    refine r_ret (rs := [.tmp 6, .tmp 7]) [_, _] Tryz.func56 rfl ⟨rfl, rfl, trivial⟩ ?_
    exact .inl ⟨1, by decide, rfl, aprE_2 (Decidable.not_not.1 hc16) (.inl (by simpa using hg22)), S17.le⟩
  refine l_x rfl (x_fieldAddr rfl Tryz.runUnderlying30 rfl Tryz.sizeOf28 (by decide)) ?_
  refine l_x rfl (x_load rfl (ld_blks (S17.blk 2 rfl) Tryz.isAgg28 Tryz.sizeOf28 rfl rfl)) ?_
  refine l_call [] [] [_] rfl rfl Tryz.call123 rfl (c_rsigns _ _) ?_
  rintro _ w19 ⟨rfl, hl21⟩
  have S20 := S17.step hl21
  refine l_x rfl (x_not rfl) ?_
  refine l_x rfl (x_pick_f rfl rfl) ?_
  refine l_nil ?_
  refine r_if rfl (fun hc27 => ?_) (fun hc27 => ?_)
  · skip
    refine r_seq ?_
    refine r_region ?_
    refine l_x rfl (x_as rfl) ?_
    refine l_x rfl (x_as rfl) ?_
    refine l_nil ?_
    refine r_ret (rs := [.tmp 6, .tmp 7]) [_, _] Tryz.func56 rfl ⟨rfl, rfl, trivial⟩ ?_
    exact .inl ⟨1, by decide, rfl, aprE_2 (Decidable.not_not.1 hc16) (.inr (by simpa using hc27)), S20.le⟩
  refine r_skip ?_
  refine r_seq ?_
  refine r_region ?_
  refine l_x rfl (x_as rfl) ?_
  refine l_nil ?_
  refine r_seq ?_
  refine r_seq ?_
  refine r_region ?_
  refine l_x rfl (x_as rfl) ?_
  refine l_nil ?_
  refine r_block ?_
  refine r_loop (G := Nat) (fun i => 6 - i) (fun i => [(3, .pointer (some ⟨b4, 0, none⟩)), (4, .pointer (some ⟨b8, 0, none⟩)), (5, .pointer (some ⟨b12, 0, none⟩)), (10, Value.int .i64 i), (9, Value.int .i64 (aprN b x y i))]) (fun i w' => (i ≤ 6) ∧ Own nob w w' [blk b4 [vm, vf] 25, blk b8 (encSg x) 30, blk b12 (encSg y) 30]) 0 ⟨rfl, rfl, rfl, rfl, rfl, trivial⟩ ⟨Nat.zero_le _, (S20.take 3)⟩ ?_
  rintro i ρ w1 ⟨hi, S1⟩ IH
  refine r_seq ?_
  refine r_seq ?_
  refine r_region ?_
  refine l_x rfl (x_mv rfl) ?_
  refine l_x rfl (x_lss rfl rfl) ?_
  refine l_nil ?_
  refine r_ifd rfl (fun hc29 => ?_) (fun hc29 => ?_)
  · skip
    refine r_skip ?_
    refine r_seq ?_
    refine r_block ?_
    refine r_seq ?_
    refine r_region ?_
    refine l_x rfl (x_as rfl) ?_
    refine l_nil ?_
    refine r_seq ?_
    refine r_seq ?_
    refine r_region ?_
    refine l_x rfl (x_as rfl) ?_
    refine l_nil ?_
    refine r_block ?_
    refine r_loop (G := Nat) (fun u => 5 - u) (fun u => [(3, .pointer (some ⟨b4, 0, none⟩)), (4, .pointer (some ⟨b8, 0, none⟩)), (5, .pointer (some ⟨b12, 0, none⟩)), (10, Value.int .i64 i), (9, Value.int .i64 (aprN b x y i)), (11, .bool (fndP b x y i u)), (12, Value.int .u8 (u : Int))]) (fun u w' => (u ≤ 5) ∧ Own nob w w' [blk b4 [vm, vf] 25, blk b8 (encSg x) 30, blk b12 (encSg y) 30]) 0 ⟨rfl, rfl, rfl, rfl, rfl, rfl, rfl, trivial⟩ ⟨Nat.zero_le _, S1⟩ ?_
    rintro u ρ w1b ⟨hu, S1b⟩ IHb
    refine r_seq ?_
    refine r_seq ?_
    refine r_region ?_
    refine l_x rfl (x_mv rfl) ?_
    refine l_x rfl (x_leq rfl rfl) ?_
    refine l_nil ?_
    refine r_ifd rfl (fun hc33 => ?_) (fun hc33 => ?_)
    · skip
      refine r_skip ?_
      refine r_seq ?_
      refine r_block ?_
      refine r_drawR 22 Tryz.mixed (by kernel_rfl) ?_
      refine w_x rfl (fun w1 h1 => x_mv rfl) ?_
      refine w_x rfl (fun w1 h1 => x_mv rfl) ?_
      refine w_split (d := 37) rfl (fun hg37 => ?_) (fun hg37 => ?_)
      · skip
        refine w_pass rfl ?_
        refine w_pass rfl ?_
        refine w_pass rfl ?_
        refine w_pass rfl ?_
        refine w_pass rfl ?_
        refine w_pass rfl ?_
        refine w_pass rfl ?_
        refine w_pass rfl ?_
        refine w_pass rfl ?_
        refine w_pass rfl ?_
        refine w_pass rfl ?_
        refine w_pass rfl ?_
        refine w_pass rfl ?_
        refine w_pass rfl ?_
        refine w_pass rfl ?_
        refine w_pass rfl ?_
        refine w_pass rfl ?_
        refine w_pass rfl ?_
        refine w_x rfl (fun w1 h1 => x_pick_t rfl rfl) ?_
        refine w_x rfl (fun w1 h1 => x_as rfl) ?_
        refine w_nil ?_
        intro w22 hl23
        have S24 := S1b.step hl23
        refine l_nil ?_
        refine r_inBlock ?_
        refine r_region ?_
        refine l_x rfl (x_mv rfl) ?_
        refine l_x rfl (x_add8 rfl rfl (by omega)) ?_
        refine l_x rfl (x_as rfl) ?_
        refine l_nil ?_
        exact IHb (u + 1) _ _ (by omega) ⟨rfl, rfl, rfl, rfl, rfl, (congrArg Value.bool (fnd_T hg37)), rfl, trivial⟩ ⟨by omega, (S24.take 3)⟩
      refine w_x rfl (fun w1 h1 => x_load rfl (ld_blks ((S1b.step h1).blk 0 rfl) Tryz.isAgg25 Tryz.sizeOf25 rfl rfl)) ?_
      refine w_x rfl (fun w1 h1 => x_mv rfl) ?_
      refine w_x rfl (fun w1 h1 => x_mv rfl) ?_
      refine w_x rfl (fun w1 h1 => x_fieldAddr rfl Tryz.runUnderlying30 rfl Tryz.sizeOf28 (by decide)) ?_
      refine w_x rfl (fun w1 h1 => x_indexAddr_array rfl rfl Tryz.runUnderlying28 Tryz.sizeOf5 (by omega)) ?_
      refine w_x rfl (fun w1 h1 => x_load rfl (ld_blk ((S1b.step h1).blk 1 rfl) Tryz.isAgg5 (sgb_get (by omega)))) ?_
      refine w_x rfl (fun w1 h1 => x_mv rfl) ?_
      refine wd_call [] [] [_, _, _, _] rfl rfl Tryz.call124 rfl (fun w1 h1 => c_rmay b vm vf i (x.get i) (u : Int) _ (hB.le (S1b.step h1).le)) ?_
      refine w_x rfl (fun w1 h1 => x_mv rfl) ?_
      refine w_split (d := 46) rfl (fun hg46 => ?_) (fun hg46 => ?_)
      · skip
        refine w_x rfl (fun w1 h1 => x_load rfl (ld_blks ((S1b.step h1).blk 0 rfl) Tryz.isAgg25 Tryz.sizeOf25 rfl rfl)) ?_
        refine w_x rfl (fun w1 h1 => x_mv rfl) ?_
        refine w_x rfl (fun w1 h1 => x_mv rfl) ?_
        refine w_x rfl (fun w1 h1 => x_fieldAddr rfl Tryz.runUnderlying30 rfl Tryz.sizeOf28 (by decide)) ?_
        refine w_x rfl (fun w1 h1 => x_indexAddr_array rfl rfl Tryz.runUnderlying28 Tryz.sizeOf5 (by omega)) ?_
        refine w_x rfl (fun w1 h1 => x_load rfl (ld_blk ((S1b.step h1).blk 2 rfl) Tryz.isAgg5 (sgb_get (by omega)))) ?_
        refine w_x rfl (fun w1 h1 => x_mv rfl) ?_
        refine wd_call [] [] [_, _, _, _] rfl rfl Tryz.call124 rfl (fun w1 h1 => c_rmay b vm vf i (y.get i) (u : Int) _ (hB.le (S1b.step h1).le)) ?_
        refine w_x rfl (fun w1 h1 => x_pick_t rfl rfl) ?_
        refine w_x rfl (fun w1 h1 => x_pick_f rfl rfl) ?_
        refine w_x rfl (fun w1 h1 => x_as rfl) ?_
        refine w_nil ?_
        intro w25 hl26
        have S27 := S1b.step hl26
        refine l_nil ?_
        refine r_inBlock ?_
        refine r_region ?_
        refine l_x rfl (x_mv rfl) ?_
        refine l_x rfl (x_add8 rfl rfl (by omega)) ?_
        refine l_x rfl (x_as rfl) ?_
        refine l_nil ?_
        exact IHb (u + 1) _ _ (by omega) ⟨rfl, rfl, rfl, rfl, rfl, (congrArg Value.bool (fnd_M hg37 hg46)), rfl, trivial⟩ ⟨by omega, (S27.take 3)⟩
      refine w_pass rfl ?_
      refine w_pass rfl ?_
      refine w_pass rfl ?_
      refine w_pass rfl ?_
      refine w_pass rfl ?_
      refine w_pass rfl ?_
      refine w_pass rfl ?_
      refine w_pass rfl ?_
      refine w_x rfl (fun w1 h1 => x_pick_f rfl rfl) ?_
      refine w_x rfl (fun w1 h1 => x_pick_f rfl rfl) ?_
      refine w_x rfl (fun w1 h1 => x_as rfl) ?_
      refine w_nil ?_
      intro w28 hl29
      have S30 := S1b.step hl29
      refine l_nil ?_
      refine r_inBlock ?_
      refine r_region ?_
      refine l_x rfl (x_mv rfl) ?_
      refine l_x rfl (x_add8 rfl rfl (by omega)) ?_
      refine l_x rfl (x_as rfl) ?_
      refine l_nil ?_
      exact IHb (u + 1) _ _ (by omega) ⟨rfl, rfl, rfl, rfl, rfl, (congrArg Value.bool (fnd_F hg37 hg46)), rfl, trivial⟩ ⟨by omega, (S30.take 3)⟩
    obtain rfl : u = 5 := by omega
    refine r_exit rfl ?_
    refine r_seq ?_
    refine r_region ?_
    refine l_x rfl (x_mv rfl) ?_
    refine l_x rfl (x_not rfl) ?_
    refine l_nil ?_
    refine r_if rfl (fun hc58 => ?_) (fun hc58 => ?_)
    · skip
      refine r_region ?_
      refine l_x rfl (x_mv rfl) ?_
      refine l_x rfl (x_add rfl rfl (by have := apr_bd (b := b) (x := x) (y := y) (i := i); omega)) ?_
      refine l_x rfl (x_as rfl) ?_
      refine l_nil ?_
      refine r_inBlock ?_
      refine r_region ?_
      refine l_x rfl (x_mv rfl) ?_
      refine l_x rfl (x_add rfl rfl (by omega)) ?_
      refine l_x rfl (x_as rfl) ?_
      refine l_nil ?_
      exact IH (i + 1) _ _ (by omega) ⟨rfl, rfl, rfl, rfl, (congrArg (Value.int .i64) (apr_yes (by rw [← fnd_all]; simpa using hc58)).symm), trivial⟩ ⟨by omega, (S1b.take 3)⟩
    refine r_skip ?_
    refine r_inBlock ?_
    refine r_region ?_
    refine l_x rfl (x_mv rfl) ?_
    refine l_x rfl (x_add rfl rfl (by omega)) ?_
    refine l_x rfl (x_as rfl) ?_
    refine l_nil ?_
    exact IH (i + 1) _ _ (by omega) ⟨rfl, rfl, rfl, rfl, (congrArg (Value.int .i64) (apr_no (by rw [← fnd_all]; simpa using hc58)).symm), trivial⟩ ⟨by omega, (S1b.take 3)⟩
  obtain rfl : i = 6 := by omega
  refine r_exit rfl ?_
  refine r_seq ?_
  refine r_region ?_
  refine l_x rfl (x_mv rfl) ?_
  refine l_x rfl (x_as rfl) ?_
  refine l_x rfl (x_as rfl) ?_
  refine l_nil ?_
  refine r_ret (rs := [.tmp 6, .tmp 7]) [_, _] Tryz.func56 rfl ⟨rfl, rfl, trivial⟩ ?_
  exact .inr ⟨rfl, aprE_3 (Decidable.not_not.1 hc16) (by simpa using hg22) (by simpa using hc27), S1.le⟩

theorem dig_next {n q : Nat} (h : q < 6) : (((n / 5 ^ (6 - (q + 1)) : Nat) : Int)) / 5 = ((n / 5 ^ (6 - q) : Nat) : Int) := by
  rw [show 6 - q = (6 - (q + 1)) + 1 by omega, Nat.pow_succ, ← Nat.div_div_eq_div_mul]; push_cast; rfl
theorem dig_mod {n q : Nat} : (((n / 5 ^ (6 - (q + 1)) : Nat) : Int)) % 5 = ((n / 5 ^ (5 - q) % 5 : Nat) : Int) := by
  rw [show 6 - (q + 1) = 5 - q by omega]; push_cast; rfl

set_option maxHeartbeats 4000000 in
/-- couchant/couchantref03.Free. -/
theorem c_rFree (b : Sm) (vm vf : Value) (day : Int) (w : World) (hB : SmR 39 41 w vm vf b) :
    Cl Tryz.prog 22 #[.agg #[vm, vf], Value.int .i64 day] w fun v w' => (∃ e, e ≠ 0 ∧ v = .tuple #[Value.agg (encSg zeroSg).toArray, .int .i64 e] ∧ e = openE b day true ∧ Le w w') ∨ (∃ n, v = .tuple #[Value.agg (encSg (sgOf n)).toArray, Value.int .i64 0] ∧ openE b day true = 0 ∧ freeN b day = some n ∧ Le w w') ∨ (v = .tuple #[Value.agg (encSg zeroSg).toArray, Value.int .i64 5] ∧ openE b day true = 0 ∧ freeN b day = none ∧ Le w w') := by
  refine fn_of_run (args := [_, _]) 69 Tryz.func22 rfl rfl rfl fun cs => ?_
  have S := Own.start (X := nob) w
  refine r_seq ?_
  refine r_region ?_
  refine l_box S rfl rfl ?_
  intro b4 w1 S2 hl3
  refine l_alloc S2 rfl Tryz.zeroValue30 rfl ?_
  intro b8 w5 S6 hl7
  refine l_x rfl (x_as rfl) ?_
  refine l_nil ?_
  refine r_seq ?_
  refine r_region ?_
  refine l_x rfl (x_load rfl (ld_blks (S6.blk 0 rfl) Tryz.isAgg25 Tryz.sizeOf25 rfl rfl)) ?_
  refine l_x rfl (x_mv rfl) ?_
  refine l_call [] [] [_, _] rfl rfl Tryz.call34 rfl (c_rInForce b vm vf day _ (hB.le S6.le)) ?_
  rintro _ w9 (⟨x1, hx1, rfl, hqx1, hl199⟩ | ⟨vl, rfl, ho1, hN199, hl199⟩)
  · skip
    have S10 := S6.step hl199
    refine l_x rfl (x_mv rfl) ?_
    refine l_x rfl (x_extract rfl rfl) ?_
    refine l_x rfl (x_extract rfl rfl) ?_
    refine l_x rfl (x_as rfl) ?_
    refine l_x rfl (x_as rfl) ?_
    refine l_nil ?_
    refine r_seq ?_
    refine r_seq ?_
    refine r_region ?_
    refine l_x rfl (x_mv rfl) ?_
    refine l_x rfl (x_neq rfl rfl) ?_
    refine l_nil ?_
    refine r_ifd rfl (fun hc23 => ?_) (fun hc23 => ?_)
    · skip
      refine r_seq ?_
      refine r_region ?_
      refine l_x rfl (x_buildS (out := [_, _, _, _, _, _]) (ss := [6]) Tryz.zeroValue30 rfl Tryz.runUnderlying30 ⟨Tryz.sizeOf28, trivial⟩ fill_nil) ?_
      refine l_x rfl (x_mv rfl) ?_
      refine l_stores (vs := [_, _, _, _, _, _]) S10 1 rfl rfl rfl rfl (ones_cons rfl (ones_cons rfl (ones_cons rfl (ones_cons rfl (ones_cons rfl (ones_cons rfl ones_nil)))))) Tryz.sizeOf30 (by first | exact Nat.le_refl _ | simp) (splice_all rfl) ?_
      intro w11 S12 hk13
      refine l_x rfl (x_as rfl) ?_
      refine l_nil ?_
      refine r_ret (rs := [.cell 4 30, .tmp 5]) [_, _] Tryz.func22 rfl ⟨⟨_, rfl, (ld_blks (S12.blk 1 rfl) Tryz.isAgg30 Tryz.sizeOf30 rfl rfl)⟩, rfl, trivial⟩ ?_
      exact .inl ⟨x1, hx1, rfl, hqx1, S12.le⟩
    exact absurd hx1 hc23
  have S14 := S6.add hl199 hN199
  refine l_x rfl (x_mv rfl) ?_
  refine l_x rfl (x_extract rfl rfl) ?_
  refine l_x rfl (x_extract rfl rfl) ?_
  refine l_x rfl (x_as rfl) ?_
  refine l_x rfl (x_as rfl) ?_
  refine l_nil ?_
  refine r_seq ?_
  refine r_seq ?_
  refine r_region ?_
  refine l_x rfl (x_mv rfl) ?_
  refine l_x rfl (x_neq rfl rfl) ?_
  refine l_nil ?_
  refine r_ifd rfl (fun hc23 => ?_) (fun hc23 => ?_)
  · exact absurd rfl hc23
  have hfl := force_len9 ho1
  refine r_skip ?_
  refine r_seq ?_
  refine r_seq ?_
  refine r_region ?_
  refine l_x rfl (x_as rfl) ?_
  refine l_nil ?_
  refine r_block ?_
  refine r_loop (G := Nat) (fun n => 15625 - n) (fun n => [(2, .pointer (some ⟨b4, 0, none⟩)), (4, .pointer (some ⟨b8, 0, none⟩)), (6, vl), (8, Value.int .i64 n)]) (fun n w' => (n ≤ 15625) ∧ (∀ q, q < n → freeB b day (sgOf q) = false) ∧ Own nob w w' [blk b4 [vm, vf] 25, vec EMK vl (force b day), blk b8 (encSg zeroSg) 30]) 0 ⟨rfl, rfl, rfl, rfl, trivial⟩ ⟨by omega, fun q h => absurd h (Nat.not_lt_zero q), (S14.pick [0, 2, 1] (by decide) rfl)⟩ ?_
  rintro n ρ w1 ⟨hn9, hno, S1⟩ IH
  refine r_seq ?_
  refine r_seq ?_
  refine r_region ?_
  refine l_x rfl (x_mv rfl) ?_
  refine l_x rfl (x_lss rfl rfl) ?_
  refine l_nil ?_
  refine r_ifd rfl (fun hc27 => ?_) (fun hc27 => ?_)
  · skip
    have hn : n < 15625 := by omega
    refine r_skip ?_
    refine r_seq ?_
    refine r_block ?_
    refine r_seq ?_
    refine r_region ?_
    refine l_alloc S1 rfl Tryz.zeroValue30 rfl ?_
    intro b18 w15 S16 hl17
    refine l_nil ?_
    refine r_seq ?_
    refine r_region ?_
    refine l_x rfl (x_mv rfl) ?_
    refine l_x rfl (x_as rfl) ?_
    refine l_nil ?_
    refine r_seq ?_
    refine r_seq ?_
    refine r_region ?_
    refine l_x rfl (x_as rfl) ?_
    refine l_nil ?_
    refine r_block ?_
    refine r_loop (G := Nat) (fun j => j) (fun j => [(2, .pointer (some ⟨b4, 0, none⟩)), (4, .pointer (some ⟨b8, 0, none⟩)), (6, vl), (8, Value.int .i64 n), (9, .pointer (some ⟨b18, 0, none⟩)), (10, Value.int .i64 ((n / 5 ^ (6 - j) : Nat) : Int)), (11, Value.int .i64 ((j : Int) - 1))]) (fun j w' => (j ≤ 6) ∧ Own nob w w' [blk b4 [vm, vf] 25, vec EMK vl (force b day), blk b8 (encSg zeroSg) 30, blk b18 (encSg (odoR n j)) 30]) 6 ⟨rfl, rfl, rfl, rfl, rfl, (congrArg (Value.int .i64) (by rw [show 6 - 6 = 0 from rfl, Nat.pow_zero, Nat.div_one])), rfl, trivial⟩ ⟨Nat.le_refl _, (by have h := S16.take 4; rw [odoR_six (n := n)] at h; exact h)⟩ ?_
    rintro j ρ w1b ⟨hj, S1b⟩ IHb
    refine r_seq ?_
    refine r_seq ?_
    refine r_region ?_
    refine l_x rfl (x_mv rfl) ?_
    refine l_x rfl (x_geq rfl rfl) ?_
    refine l_nil ?_
    refine r_ifd rfl (fun hc32 => ?_) (fun hc32 => ?_)
    · skip
      obtain ⟨q, rfl⟩ : ∃ q, j = q + 1 := ⟨j - 1, by omega⟩
      have hqi : ((((q + 1 : Nat) : Int)) - 1).toNat = q := by omega
      have hdg := dig_next (n := n) (q := q) (by omega)
      have hdm := dig_mod (n := n) (q := q)
      refine r_skip ?_
      refine r_seq ?_
      refine r_block ?_
      refine r_seq ?_
      refine r_region ?_
      refine l_x rfl (x_mv rfl) ?_
      refine l_x rfl (x_mv rfl) ?_
      refine l_x rfl (x_rem rfl rfl (nn5 _)) ?_
      refine l_x rfl (x_convert rfl Tryz.runUnderlying3 Tryz.runUnderlying5 (u8_in (nn5m _))) ?_
      refine l_x rfl (x_fieldAddr rfl Tryz.runUnderlying30 rfl Tryz.sizeOf28 (by decide)) ?_
      refine l_x rfl (x_indexAddr_array rfl rfl Tryz.runUnderlying28 Tryz.sizeOf5 (by omega)) ?_
      refine l_storeq S1b 3 rfl rfl rfl rfl rfl Tryz.sizeOf5 (sgb_lt (by omega)) (sgb_set (by omega)) ?_
      intro w19 S20 hk21
      refine l_nil ?_
      refine r_region ?_
      refine l_x rfl (x_mv rfl) ?_
      refine l_x rfl (x_quo rfl rfl (nn5q (Nat.le_trans (Nat.div_le_self _ _) (by omega)))) ?_
      refine l_x rfl (x_as rfl) ?_
      refine l_nil ?_
      refine r_inBlock ?_
      refine r_region ?_
      refine l_x rfl (x_mv rfl) ?_
      refine l_x rfl (x_sub rfl rfl (by omega)) ?_
      refine l_x rfl (x_as rfl) ?_
      refine l_nil ?_
      exact IHb q _ _ (by omega) ⟨rfl, rfl, rfl, rfl, rfl, (congrArg (Value.int .i64) hdg), (congrArg (Value.int .i64) (by omega)), trivial⟩ ⟨by omega, (by have h := S20.take 4; rw [hqi, hdm, odoR_step (by omega)] at h; exact h)⟩
    obtain rfl : j = 0 := by omega
    refine r_exit rfl ?_
    refine r_seq ?_
    refine r_region ?_
    refine l_x rfl (x_as rfl) ?_
    refine l_nil ?_
    refine r_seq ?_
    refine r_seq ?_
    refine r_region ?_
    refine l_x rfl (x_as rfl) ?_
    refine l_nil ?_
    refine r_block ?_
    refine r_loop (G := Nat) (fun i => (force b day).length - i) (fun i => [(2, .pointer (some ⟨b4, 0, none⟩)), (4, .pointer (some ⟨b8, 0, none⟩)), (6, vl), (8, Value.int .i64 n), (9, .pointer (some ⟨b18, 0, none⟩)), (12, .bool (frP b day n i)), (13, Value.int .i64 i)]) (fun i w' => (i ≤ (force b day).length) ∧ Own nob w w' [blk b4 [vm, vf] 25, vec EMK vl (force b day), blk b8 (encSg zeroSg) 30, blk b18 (encSg (sgOf n)) 30]) 0 ⟨rfl, rfl, rfl, rfl, rfl, rfl, rfl, trivial⟩ ⟨Nat.zero_le _, (by have h := S1b.take 4; rw [odoR_zero] at h; exact h)⟩ ?_
    rintro i ρ w1c ⟨hi, S1c⟩ IHc
    refine r_seq ?_
    refine r_seq ?_
    refine r_region ?_
    refine l_x rfl (x_mv rfl) ?_
    refine l_x rfl (x_mv rfl) ?_
    refine l_x rfl (x_len (vec_rd (S1c.at 1 rfl)) rfl Tryz.runUnderlying22) ?_
    refine l_x rfl (x_lss rfl rfl) ?_
    refine l_x rfl (x_mv rfl) ?_
    refine l_splitd (d := 47) rfl (fun hg47 => ?_) (fun hg47 => ?_)
    · skip
      refine l_x rfl (x_mv rfl) ?_
      refine l_x rfl (x_pick_t rfl rfl) ?_
      refine l_nil ?_
      refine r_if rfl (fun hc49 => ?_) (fun hc49 => ?_)
      · skip
        obtain ⟨a, ha⟩ : ∃ a, (force b day)[i]? = some a := ⟨_, List.getElem?_eq_getElem (by omega)⟩
        refine r_skip ?_
        refine r_seq ?_
        refine r_block ?_
        refine r_seq ?_
        refine r_drawE 15 (yng w1c) Tryz.mixed (by kernel_rfl) ?_
        intro w22 hl23
        have S24 := S1c.step hl23
        have hy25 : Keep (yng w1c) w1c w22 := .of_le hl23
        refine e_exact 0 _ (by kernel_rfl) rfl rfl (by kernel_rfl) rfl (ex_x rfl (fun w1 h1 => x_load rfl (ld_blks ((S1c.yng (hy25.trans h1)).blk 0 rfl) Tryz.isAgg25 Tryz.sizeOf25 rfl rfl))) ?_
        refine e_exact 1 _ (by kernel_rfl) rfl rfl (by kernel_rfl) rfl (ex_x rfl (fun w1 h1 => x_fieldAddr rfl Tryz.runUnderlying30 rfl Tryz.sizeOf28 (by decide))) ?_
        refine e_exact 2 _ (by kernel_rfl) rfl rfl (by kernel_rfl) rfl (ex_x rfl (fun w1 h1 => x_load rfl (ld_blks ((S1c.yng (hy25.trans h1)).blk 3 rfl) Tryz.isAgg28 Tryz.sizeOf28 rfl rfl))) ?_
        refine e_exact 3 _ (by kernel_rfl) rfl rfl (by kernel_rfl) rfl (ex_x rfl (fun w1 h1 => x_mv rfl)) ?_
        refine e_exact 4 _ (by kernel_rfl) rfl rfl (by kernel_rfl) rfl (ex_x rfl (fun w1 h1 => x_mv rfl)) ?_
        refine e_index EMK 5 (by kernel_rfl) rfl rfl (by kernel_rfl) rfl rfl (vec_rd (S24.at 1 rfl)) rfl rfl Tryz.runUnderlying22 Tryz.sizeOf39 (by omega) ha ?_
        intro b26 o27 hat28
        refine e_exact 6 _ (by kernel_rfl) rfl rfl (by kernel_rfl) rfl (ex_x rfl (fun w1 h1 => x_fieldAddr rfl Tryz.runUnderlying39 rfl Tryz.sizeOf28 (by decide))) ?_
        refine e_exact 7 _ (by kernel_rfl) rfl rfl (by kernel_rfl) rfl (ex_x rfl (fun w1 h1 => x_load rfl (ld_part (f := 3) Tryz.isAgg28 Tryz.sizeOf28 rfl rfl (rd_row (vec_rd ((S1c.yng (hy25.trans h1)).at 1 rfl)) hat28 ha)))) ?_
        refine e_next [8, 12] (by kernel_rfl) (by kernel_rfl) ⟨⟨_, _, rfl, rfl, ?_⟩, ⟨_, _, rfl, rfl, ?_⟩, trivial⟩
        · skip
          refine s_callf [] [] [_, _, _] rfl rfl Tryz.call77 rfl ((c_rcommon b vm vf (sgOf n) a.s _ (hB.le S24.le)).mono ?_)
          rintro _ w29 ⟨rfl, hl31⟩
          have S30 := S24.step hl31
          refine ⟨.of_le hl31, ?_⟩
          have hy32 : Keep (yng w1c) w1c w29 := hy25.trans (Keep.of_le hl31)
          refine e_exact 9 _ (by kernel_rfl) rfl rfl (by kernel_rfl) rfl (ex_x rfl (fun w1 h1 => x_mv rfl)) ?_
          refine e_exact 10 _ (by kernel_rfl) rfl rfl (by kernel_rfl) rfl (ex_x rfl (fun w1 h1 => x_extract rfl rfl)) ?_
          refine e_exact 11 _ (by kernel_rfl) rfl rfl (by kernel_rfl) rfl (ex_x rfl (fun w1 h1 => x_extract rfl rfl)) ?_
          refine e_next [12] (by kernel_rfl) (by kernel_rfl) ⟨⟨_, _, rfl, rfl, ?_⟩, trivial⟩
          refine s_allocY S30 rfl Tryz.zeroValue30 rfl ?_
          intro b36 w33 S34 hl35 hb37
          refine ⟨.of_le hl35, ?_⟩
          have hy38 : Keep (yng w1c) w1c w33 := hy32.trans (Keep.of_le hl35)
          refine e_next [13] (by kernel_rfl) (by kernel_rfl) ⟨⟨_, _, rfl, rfl, ?_⟩, trivial⟩
          refine s_stores (vs := [_, _, _, _, _, _]) S34 4 rfl rfl rfl rfl (ones_cons rfl (ones_cons rfl (ones_cons rfl (ones_cons rfl (ones_cons rfl (ones_cons rfl ones_nil)))))) Tryz.sizeOf30 (by first | exact Nat.le_refl _ | simp) (splice_all rfl) ?_
          intro w39 S40 hk41
          refine ⟨(yng_blk hy32 hb37 hk41), ?_⟩
          have hy42 : Keep (yng w1c) w1c w39 := hy38.trans ((yng_blk hy32 hb37 hk41))
          refine e_exact 14 _ (by kernel_rfl) rfl rfl (by kernel_rfl) rfl (ex_x rfl (fun w1 h1 => x_as rfl)) ?_
          refine e_done (by kernel_rfl) ?_
          refine l_nil ?_
          refine r_region ?_
          refine l_x rfl (x_mv rfl) ?_
          refine l_x rfl (x_not rfl) ?_
          refine l_x rfl (x_as rfl) ?_
          refine l_nil ?_
          refine r_inBlock ?_
          refine r_region ?_
          refine l_x rfl (x_mv rfl) ?_
          refine l_x rfl (x_add rfl rfl (by omega)) ?_
          refine l_x rfl (x_as rfl) ?_
          refine l_nil ?_
          exact IHc (i + 1) _ _ (by omega) ⟨rfl, rfl, rfl, rfl, rfl, (congrArg Value.bool (fr_step ha hc49)), rfl, trivial⟩ ⟨by omega, (S40.take 4)⟩
        refine s_allocY S24 rfl Tryz.zeroValue30 rfl ?_
        intro b46 w43 S44 hl45 hb47
        refine ⟨.of_le hl45, ?_⟩
        have hy48 : Keep (yng w1c) w1c w43 := hy25.trans (Keep.of_le hl45)
        refine e_next [8] (by kernel_rfl) (by kernel_rfl) ⟨⟨_, _, rfl, rfl, ?_⟩, trivial⟩
        refine s_callf [] [] [_, _, _] rfl rfl Tryz.call77 rfl ((c_rcommon b vm vf (sgOf n) a.s _ (hB.le S44.le)).mono ?_)
        rintro _ w49 ⟨rfl, hl51⟩
        have S50 := S44.step hl51
        refine ⟨.of_le hl51, ?_⟩
        have hy52 : Keep (yng w1c) w1c w49 := hy48.trans (Keep.of_le hl51)
        refine e_exact 9 _ (by kernel_rfl) rfl rfl (by kernel_rfl) rfl (ex_x rfl (fun w1 h1 => x_mv rfl)) ?_
        refine e_exact 10 _ (by kernel_rfl) rfl rfl (by kernel_rfl) rfl (ex_x rfl (fun w1 h1 => x_extract rfl rfl)) ?_
        refine e_exact 11 _ (by kernel_rfl) rfl rfl (by kernel_rfl) rfl (ex_x rfl (fun w1 h1 => x_extract rfl rfl)) ?_
        refine e_next [13] (by kernel_rfl) (by kernel_rfl) ⟨⟨_, _, rfl, rfl, ?_⟩, trivial⟩
        refine s_stores (vs := [_, _, _, _, _, _]) S50 4 rfl rfl rfl rfl (ones_cons rfl (ones_cons rfl (ones_cons rfl (ones_cons rfl (ones_cons rfl (ones_cons rfl ones_nil)))))) Tryz.sizeOf30 (by first | exact Nat.le_refl _ | simp) (splice_all rfl) ?_
        intro w53 S54 hk55
        refine ⟨(yng_blk hy25 hb47 hk55), ?_⟩
        have hy56 : Keep (yng w1c) w1c w53 := hy52.trans ((yng_blk hy25 hb47 hk55))
        refine e_exact 14 _ (by kernel_rfl) rfl rfl (by kernel_rfl) rfl (ex_x rfl (fun w1 h1 => x_as rfl)) ?_
        refine e_done (by kernel_rfl) ?_
        refine l_nil ?_
        refine r_region ?_
        refine l_x rfl (x_mv rfl) ?_
        refine l_x rfl (x_not rfl) ?_
        refine l_x rfl (x_as rfl) ?_
        refine l_nil ?_
        refine r_inBlock ?_
        refine r_region ?_
        refine l_x rfl (x_mv rfl) ?_
        refine l_x rfl (x_add rfl rfl (by omega)) ?_
        refine l_x rfl (x_as rfl) ?_
        refine l_nil ?_
        exact IHc (i + 1) _ _ (by omega) ⟨rfl, rfl, rfl, rfl, rfl, (congrArg Value.bool (fr_step ha hc49)), rfl, trivial⟩ ⟨by omega, (S54.take 4)⟩
      refine r_exit rfl ?_
      refine r_seq ?_
      refine r_region ?_
      refine l_x rfl (x_mv rfl) ?_
      refine l_nil ?_
      refine r_if rfl (fun hc66 => ?_) (fun hc66 => ?_)
      · (rw [hc49] at hc66; cases hc66)
      have hfb := fr_not hc66
      refine r_skip ?_
      refine r_inBlock ?_
      refine r_region ?_
      refine l_x rfl (x_mv rfl) ?_
      refine l_x rfl (x_add rfl rfl (by omega)) ?_
      refine l_x rfl (x_as rfl) ?_
      refine l_nil ?_
      exact IH (n + 1) _ _ (by omega) ⟨rfl, rfl, rfl, rfl, trivial⟩ ⟨by omega, no_step (P := fun q => freeB b day (sgOf q)) hno hfb, (S1c.take 3)⟩
    refine l_pass rfl ?_
    refine l_x rfl (x_pick_f rfl rfl) ?_
    refine l_nil ?_
    refine r_false rfl ?_
    refine r_exit rfl ?_
    refine r_seq ?_
    refine r_region ?_
    refine l_x rfl (x_mv rfl) ?_
    refine l_nil ?_
    refine r_if rfl (fun hc66 => ?_) (fun hc66 => ?_)
    · skip
      obtain rfl : i = (force b day).length := by omega
      refine r_seq ?_
      refine r_region ?_
      refine l_x rfl (x_load rfl (ld_blks (S1c.blk 3 rfl) Tryz.isAgg30 Tryz.sizeOf30 rfl rfl)) ?_
      refine l_stores (vs := [_, _, _, _, _, _]) S1c 2 rfl rfl rfl rfl (ones_cons rfl (ones_cons rfl (ones_cons rfl (ones_cons rfl (ones_cons rfl (ones_cons rfl ones_nil)))))) Tryz.sizeOf30 (by first | exact Nat.le_refl _ | simp) (splice_all rfl) ?_
      intro w57 S58 hk59
      refine l_x rfl (x_as rfl) ?_
      refine l_nil ?_
      refine r_ret (rs := [.cell 4 30, .tmp 5]) [_, _] Tryz.func22 rfl ⟨⟨_, rfl, (ld_blks (S58.blk 2 rfl) Tryz.isAgg30 Tryz.sizeOf30 rfl rfl)⟩, rfl, trivial⟩ ?_
      exact .inr (.inl ⟨n, rfl, ho1, freeN_some hn (fr_all hc66) hno, S58.le⟩)
    have hfb := fr_not hc66
    refine r_skip ?_
    refine r_inBlock ?_
    refine r_region ?_
    refine l_x rfl (x_mv rfl) ?_
    refine l_x rfl (x_add rfl rfl (by omega)) ?_
    refine l_x rfl (x_as rfl) ?_
    refine l_nil ?_
    exact IH (n + 1) _ _ (by omega) ⟨rfl, rfl, rfl, rfl, trivial⟩ ⟨by omega, no_step (P := fun q => freeB b day (sgOf q)) hno hfb, (S1c.take 3)⟩
  obtain rfl : n = 15625 := by omega
  refine r_exit rfl ?_
  refine r_seq ?_
  refine r_region ?_
  refine l_x rfl (x_buildS (out := [_, _, _, _, _, _]) (ss := [6]) Tryz.zeroValue30 rfl Tryz.runUnderlying30 ⟨Tryz.sizeOf28, trivial⟩ fill_nil) ?_
  refine l_stores (vs := [_, _, _, _, _, _]) S1 2 rfl rfl rfl rfl (ones_cons rfl (ones_cons rfl (ones_cons rfl (ones_cons rfl (ones_cons rfl (ones_cons rfl ones_nil)))))) Tryz.sizeOf30 (by first | exact Nat.le_refl _ | simp) (splice_all rfl) ?_
  intro w60 S61 hk62
  refine l_x rfl (x_as rfl) ?_
  refine l_nil ?_
  refine r_ret (rs := [.cell 4 30, .tmp 5]) [_, _] Tryz.func22 rfl ⟨⟨_, rfl, (ld_blks (S61.blk 2 rfl) Tryz.isAgg30 Tryz.sizeOf30 rfl rfl)⟩, rfl, trivial⟩ ?_
  exact .inr (.inr ⟨rfl, ho1, freeN_none hno, S61.le⟩)

end Go.Proofs

/-
  Contracts of functions of the program: each by symbolic execution of its text.
-/
namespace Go.Proofs
open Go Go.Vk Go.Vk.Flow

open Go.Vk.Mark
open Go.Vk.Deed (i64 rng rng_iff owners sumI sumI_cons sumI_snoc)

/-- couchant/couchantref03.SameMarks. -/
theorem c_SameMarks (va : Value) (a : List Mk) (vb : Value) (b : List Mk) (hm : a.length ≤ 9223372036854775807) (hoa : ∀ x ∈ a, MkOk x) (hob : ∀ x ∈ b, MkOk x) (w : World) (Ha : Rd EMK w va a) (Hb : Rd EMK w vb b) :
    Cl Tryz.prog 37 #[va, vb] w fun v w' => v = .bool (decide (a = b)) ∧ Le w w' := by
  refine fn_of_run (args := [_, _]) 26 Tryz.func37 rfl rfl rfl fun cs => ?_
  have S := Own.start (X := nob) w
  refine r_seq ?_
  refine r_region ?_
  refine l_x rfl (x_as rfl) ?_
  refine l_nil ?_
  refine r_seq ?_
  refine r_seq ?_
  refine r_region ?_
  refine l_x rfl (x_mv rfl) ?_
  refine l_x rfl (x_len (Ha.le S.le) rfl Tryz.runUnderlying22) ?_
  refine l_x rfl (x_mv rfl) ?_
  refine l_x rfl (x_len (Hb.le S.le) rfl Tryz.runUnderlying22) ?_
  refine l_x rfl (x_neq rfl rfl) ?_
  refine l_nil ?_
  refine r_ifd rfl (fun hc10 => ?_) (fun hc10 => ?_)
  · skip
    refine r_seq ?_
    refine r_region ?_
    refine l_x rfl (x_as rfl) ?_
    refine l_nil ?_
    refine r_ret (rs := [.tmp 4]) [_] Tryz.func37 rfl ⟨rfl, trivial⟩ ?_
    exact ⟨congrArg Value.bool (decide_eq_false (fun h => by subst h; omega)).symm, S.le⟩
  have hab : a.length = b.length := by omega
  refine r_skip ?_
  refine r_seq ?_
  refine r_seq ?_
  refine r_region ?_
  refine l_x rfl (x_as rfl) ?_
  refine l_nil ?_
  refine r_block ?_
  refine r_loop (G := Nat) (fun i => a.length - i) (fun i => [(0, va), (1, vb), (5, .int .i64 i)]) (fun i w' => (i ≤ a.length) ∧ (a.take i = b.take i) ∧ Own nob w w' []) 0 ⟨rfl, rfl, rfl, trivial⟩ ⟨Nat.zero_le _, by simp, S⟩ ?_
  rintro i ρ w1 ⟨hi, hs, S1⟩ IH
  refine r_seq ?_
  refine r_seq ?_
  refine r_region ?_
  refine l_x rfl (x_mv rfl) ?_
  refine l_x rfl (x_mv rfl) ?_
  refine l_x rfl (x_len (Ha.le S1.le) rfl Tryz.runUnderlying22) ?_
  refine l_x rfl (x_lss rfl rfl) ?_
  refine l_nil ?_
  refine r_ifd rfl (fun hc14 => ?_) (fun hc14 => ?_)
  · skip
    obtain ⟨x, hx⟩ : ∃ x, a[i]? = some x := ⟨_, List.getElem?_eq_getElem (by omega)⟩
    obtain ⟨y, hy⟩ : ∃ y, b[i]? = some y := ⟨_, List.getElem?_eq_getElem (by omega)⟩
    refine r_skip ?_
    refine r_seq ?_
    refine r_block ?_
    refine r_seq ?_
    refine r_drawR 9 Tryz.mixed (by kernel_rfl) ?_
    refine w_x rfl (fun w1 h1 => x_mv rfl) ?_
    refine w_x rfl (fun w1 h1 => x_mv rfl) ?_
    refine w_index EMK rfl (Ha.le S1.le) rfl rfl Tryz.runUnderlying22 Tryz.sizeOf39 (by omega) (by first | assumption | exact List.getElem?_eq_getElem (by omega)) ?_
    intro b1 o2 hat3 row4
    refine w_x rfl (fun w1 h1 => x_load rfl (ld_row Tryz.isAgg39 Tryz.sizeOf39 rfl (row4.le h1))) ?_
    refine w_x rfl (fun w1 h1 => x_mv rfl) ?_
    refine w_x rfl (fun w1 h1 => x_mv rfl) ?_
    refine w_index EMK rfl (Hb.le S1.le) rfl rfl Tryz.runUnderlying22 Tryz.sizeOf39 (by omega) (by first | assumption | exact List.getElem?_eq_getElem (by omega)) ?_
    intro b5 o6 hat7 row8
    refine w_x rfl (fun w1 h1 => x_load rfl (ld_row Tryz.isAgg39 Tryz.sizeOf39 rfl (row8.le h1))) ?_
    refine w_x rfl (fun w1 h1 => x_neS keyMk (hoa x (List.mem_of_getElem? hx)) (hob y (List.mem_of_getElem? hy)) rfl rfl) ?_
    refine w_nil ?_
    intro w9 hl10
    have S11 := S1.step hl10
    refine l_nil ?_
    refine r_ifd rfl (fun hc25 => ?_) (fun hc25 => ?_)
    · skip
      refine r_seq ?_
      refine r_region ?_
      refine l_x rfl (x_as rfl) ?_
      refine l_nil ?_
      refine r_ret (rs := [.tmp 4]) [_] Tryz.func37 rfl ⟨rfl, trivial⟩ ?_
      exact ⟨congrArg Value.bool (decide_eq_false (fun h => by subst h; rw [hx] at hy; exact hc25 (Option.some.inj hy))).symm, S11.le⟩
    have hc25 : x = y := Decidable.not_not.1 hc25
    refine r_skip ?_
    refine r_inBlock ?_
    refine r_region ?_
    refine l_x rfl (x_mv rfl) ?_
    refine l_x rfl (x_add rfl rfl (by omega)) ?_
    refine l_x rfl (x_as rfl) ?_
    refine l_nil ?_
    exact IH (i + 1) _ _ (by omega) ⟨rfl, rfl, rfl, trivial⟩ ⟨by omega, take_same hx hy hc25 hs, S11⟩
  have hie : i = a.length := by omega
  subst hie
  refine r_exit rfl ?_
  refine r_seq ?_
  refine r_region ?_
  refine l_x rfl (x_as rfl) ?_
  refine l_nil ?_
  refine r_ret (rs := [.tmp 4]) [_] Tryz.func37 rfl ⟨rfl, trivial⟩ ?_
  exact ⟨congrArg Value.bool (decide_eq_true (by rw [List.take_length] at hs; rw [hs, hab, List.take_length])).symm, S1.le⟩

set_option maxHeartbeats 1000000 in
/-- couchant/mark.Sure. -/
theorem c_Sure (b : Sm) (vm vf : Value) (day : Int) (t : Sg) (ht : SgOk t) (w : World) (hB : SmR 39 41 w vm vf b) :
    Cl Tryz.prog 42 #[.agg #[vm, vf], Value.int .i64 day, Value.agg (encSg t).toArray] w fun v w' => v = .tuple #[.int .i64 ((sureO b day t).getD 0), .bool (sureO b day t).isSome, .int .i64 (sureE b day t)] ∧ Le w w' := by
  refine fn_of_run (args := [_, _, _]) 29 Tryz.func42 rfl rfl rfl fun cs => ?_
  have S := Own.start (X := nob) w
  refine r_seq ?_
  refine r_region ?_
  refine l_box S rfl rfl ?_
  intro b4 w1 S2 hl3
  refine l_box S2 rfl rfl ?_
  intro b8 w5 S6 hl7
  refine l_x rfl (x_as rfl) ?_
  refine l_x rfl (x_as rfl) ?_
  refine l_x rfl (x_as rfl) ?_
  refine l_nil ?_
  refine r_seq ?_
  refine r_region ?_
  refine l_x rfl (x_load rfl (ld_blks (S6.blk 0 rfl) Tryz.isAgg25 Tryz.sizeOf25 rfl rfl)) ?_
  refine l_x rfl (x_mv rfl) ?_
  refine l_x rfl (x_load rfl (ld_blks (S6.blk 1 rfl) Tryz.isAgg30 Tryz.sizeOf30 rfl rfl)) ?_
  refine l_call [] [] [_, _, _] rfl rfl Tryz.call40 rfl (c_Owners b vm vf day t ht _ (hB.le S6.le)) ?_
  rintro _ w9 (⟨x1, hx1, rfl, hqx1, hl159⟩ | ⟨s1, rfl, ho1, hN159, hl159⟩)
  · skip
    have S10 := S6.step hl159
    refine l_x rfl (x_mv rfl) ?_
    refine l_x rfl (x_extract rfl rfl) ?_
    refine l_x rfl (x_extract rfl rfl) ?_
    refine l_x rfl (x_as rfl) ?_
    refine l_x rfl (x_as rfl) ?_
    refine l_nil ?_
    refine r_seq ?_
    refine r_seq ?_
    refine r_region ?_
    refine l_x rfl (x_mv rfl) ?_
    refine l_x rfl (x_neq rfl rfl) ?_
    refine l_x rfl (x_mv rfl) ?_
    refine l_splitd (d := 20) rfl (fun hg20 => ?_) (fun hg20 => ?_)
    · skip
      refine l_pass rfl ?_
      refine l_pass rfl ?_
      refine l_pass rfl ?_
      refine l_x rfl (x_pick_t rfl rfl) ?_
      refine l_nil ?_
      refine r_true rfl ?_
      refine r_seq ?_
      refine r_region ?_
      refine l_x rfl (x_mv rfl) ?_
      refine l_x rfl (x_as rfl) ?_
      refine l_x rfl (x_as rfl) ?_
      refine l_x rfl (x_as rfl) ?_
      refine l_nil ?_
      refine r_ret (rs := [.tmp 6, .tmp 7, .tmp 8]) [_, _, _] Tryz.func42 rfl ⟨rfl, rfl, rfl, trivial⟩ ?_
      exact ⟨sure_tup (q := none) (sure_bad hx1 hqx1) hqx1, S10.le⟩
    exact absurd hx1 hg20
  have S11 := S6.add hl159 hN159
  refine l_x rfl (x_mv rfl) ?_
  refine l_x rfl (x_extract rfl rfl) ?_
  refine l_x rfl (x_extract rfl rfl) ?_
  refine l_x rfl (x_as rfl) ?_
  refine l_x rfl (x_as rfl) ?_
  refine l_nil ?_
  refine r_seq ?_
  refine r_seq ?_
  refine r_region ?_
  refine l_x rfl (x_mv rfl) ?_
  refine l_x rfl (x_neq rfl rfl) ?_
  refine l_x rfl (x_mv rfl) ?_
  refine l_splitd (d := 20) rfl (fun hg20 => ?_) (fun hg20 => ?_)
  · exact absurd rfl hg20
  refine l_x rfl (x_mv rfl) ?_
  refine l_x rfl (x_len (vec_rd (S11.at 2 rfl)) rfl Tryz.runUnderlying52) ?_
  refine l_x rfl (x_neq rfl rfl) ?_
  refine l_x rfl (x_pick_f rfl rfl) ?_
  refine l_nil ?_
  refine r_ifd rfl (fun hc24 => ?_) (fun hc24 => ?_)
  · skip
    refine r_seq ?_
    refine r_region ?_
    refine l_x rfl (x_mv rfl) ?_
    refine l_x rfl (x_as rfl) ?_
    refine l_x rfl (x_as rfl) ?_
    refine l_x rfl (x_as rfl) ?_
    refine l_nil ?_
    refine r_ret (rs := [.tmp 6, .tmp 7, .tmp 8]) [_, _, _] Tryz.func42 rfl ⟨rfl, rfl, rfl, trivial⟩ ?_
    exact ⟨sure_tup (q := none) (sure_many hc24) ho1.symm, S11.le⟩
  obtain ⟨x9, hx9⟩ : ∃ x, (ownersOf b day t)[0]? = some x := ⟨_, List.getElem?_eq_getElem (by omega)⟩
  refine r_skip ?_
  refine r_seq ?_
  refine r_region ?_
  refine l_x rfl (x_mv rfl) ?_
  refine l_index EI rfl (vec_rd (S11.at 2 rfl)) rfl rfl Tryz.runUnderlying52 Tryz.sizeOf3 (by omega) hx9 ?_
  intro b12 o13 hat14 row15
  refine l_x rfl (x_load rfl (ld_cell Tryz.isAgg3 (row15 0 _ rfl))) ?_
  refine l_x rfl (x_as rfl) ?_
  refine l_x rfl (x_as rfl) ?_
  refine l_x rfl (x_as rfl) ?_
  refine l_nil ?_
  refine r_ret (rs := [.tmp 6, .tmp 7, .tmp 8]) [_, _, _] Tryz.func42 rfl ⟨rfl, rfl, rfl, trivial⟩ ?_
  exact ⟨sure_tup (q := some x9) (sure_one ho1 (by omega) hx9) ho1.symm, S11.le⟩

set_option maxHeartbeats 1000000 in
/-- couchant/couchantref03.Sure. -/
theorem c_rSure (b : Sm) (vm vf : Value) (day : Int) (t : Sg) (ht : SgOk t) (w : World) (hB : SmR 39 41 w vm vf b) :
    Cl Tryz.prog 43 #[.agg #[vm, vf], Value.int .i64 day, Value.agg (encSg t).toArray] w fun v w' => v = .tuple #[.int .i64 ((sureO b day t).getD 0), .bool (sureO b day t).isSome, .int .i64 (sureE b day t)] ∧ Le w w' := by
  refine fn_of_run (args := [_, _, _]) 29 Tryz.func43 rfl rfl rfl fun cs => ?_
  have S := Own.start (X := nob) w
  refine r_seq ?_
  refine r_region ?_
  refine l_box S rfl rfl ?_
  intro b4 w1 S2 hl3
  refine l_box S2 rfl rfl ?_
  intro b8 w5 S6 hl7
  refine l_x rfl (x_as rfl) ?_
  refine l_x rfl (x_as rfl) ?_
  refine l_x rfl (x_as rfl) ?_
  refine l_nil ?_
  refine r_seq ?_
  refine r_region ?_
  refine l_x rfl (x_load rfl (ld_blks (S6.blk 0 rfl) Tryz.isAgg25 Tryz.sizeOf25 rfl rfl)) ?_
  refine l_x rfl (x_mv rfl) ?_
  refine l_x rfl (x_load rfl (ld_blks (S6.blk 1 rfl) Tryz.isAgg30 Tryz.sizeOf30 rfl rfl)) ?_
  refine l_call [] [] [_, _, _] rfl rfl Tryz.call41 rfl (c_rOwners b vm vf day t _ (hB.le S6.le)) ?_
  rintro _ w9 (⟨x1, hx1, rfl, hqx1, hl159⟩ | ⟨s1, rfl, ho1, hN159, hl159⟩)
  · skip
    have S10 := S6.step hl159
    refine l_x rfl (x_mv rfl) ?_
    refine l_x rfl (x_extract rfl rfl) ?_
    refine l_x rfl (x_extract rfl rfl) ?_
    refine l_x rfl (x_as rfl) ?_
    refine l_x rfl (x_as rfl) ?_
    refine l_nil ?_
    refine r_seq ?_
    refine r_seq ?_
    refine r_region ?_
    refine l_x rfl (x_mv rfl) ?_
    refine l_x rfl (x_neq rfl rfl) ?_
    refine l_x rfl (x_mv rfl) ?_
    refine l_splitd (d := 20) rfl (fun hg20 => ?_) (fun hg20 => ?_)
    · skip
      refine l_pass rfl ?_
      refine l_pass rfl ?_
      refine l_pass rfl ?_
      refine l_x rfl (x_pick_t rfl rfl) ?_
      refine l_nil ?_
      refine r_true rfl ?_
      refine r_seq ?_
      refine r_region ?_
      refine l_x rfl (x_mv rfl) ?_
      refine l_x rfl (x_as rfl) ?_
      refine l_x rfl (x_as rfl) ?_
      refine l_x rfl (x_as rfl) ?_
      refine l_nil ?_
      refine r_ret (rs := [.tmp 6, .tmp 7, .tmp 8]) [_, _, _] Tryz.func43 rfl ⟨rfl, rfl, rfl, trivial⟩ ?_
      exact ⟨sure_tup (q := none) (sure_bad hx1 hqx1) hqx1, S10.le⟩
    exact absurd hx1 hg20
  have S11 := S6.add hl159 hN159
  refine l_x rfl (x_mv rfl) ?_
  refine l_x rfl (x_extract rfl rfl) ?_
  refine l_x rfl (x_extract rfl rfl) ?_
  refine l_x rfl (x_as rfl) ?_
  refine l_x rfl (x_as rfl) ?_
  refine l_nil ?_
  refine r_seq ?_
  refine r_seq ?_
  refine r_region ?_
  refine l_x rfl (x_mv rfl) ?_
  refine l_x rfl (x_neq rfl rfl) ?_
  refine l_x rfl (x_mv rfl) ?_
  refine l_splitd (d := 20) rfl (fun hg20 => ?_) (fun hg20 => ?_)
  · exact absurd rfl hg20
  refine l_x rfl (x_mv rfl) ?_
  refine l_x rfl (x_len (vec_rd (S11.at 2 rfl)) rfl Tryz.runUnderlying52) ?_
  refine l_x rfl (x_neq rfl rfl) ?_
  refine l_x rfl (x_pick_f rfl rfl) ?_
  refine l_nil ?_
  refine r_ifd rfl (fun hc24 => ?_) (fun hc24 => ?_)
  · skip
    refine r_seq ?_
    refine r_region ?_
    refine l_x rfl (x_mv rfl) ?_
    refine l_x rfl (x_as rfl) ?_
    refine l_x rfl (x_as rfl) ?_
    refine l_x rfl (x_as rfl) ?_
    refine l_nil ?_
    refine r_ret (rs := [.tmp 6, .tmp 7, .tmp 8]) [_, _, _] Tryz.func43 rfl ⟨rfl, rfl, rfl, trivial⟩ ?_
    exact ⟨sure_tup (q := none) (sure_many hc24) ho1.symm, S11.le⟩
  obtain ⟨x9, hx9⟩ : ∃ x, (ownersOf b day t)[0]? = some x := ⟨_, List.getElem?_eq_getElem (by omega)⟩
  refine r_skip ?_
  refine r_seq ?_
  refine r_region ?_
  refine l_x rfl (x_mv rfl) ?_
  refine l_index EI rfl (vec_rd (S11.at 2 rfl)) rfl rfl Tryz.runUnderlying52 Tryz.sizeOf3 (by omega) hx9 ?_
  intro b12 o13 hat14 row15
  refine l_x rfl (x_load rfl (ld_cell Tryz.isAgg3 (row15 0 _ rfl))) ?_
  refine l_x rfl (x_as rfl) ?_
  refine l_x rfl (x_as rfl) ?_
  refine l_x rfl (x_as rfl) ?_
  refine l_nil ?_
  refine r_ret (rs := [.tmp 6, .tmp 7, .tmp 8]) [_, _, _] Tryz.func43 rfl ⟨rfl, rfl, rfl, trivial⟩ ?_
  exact ⟨sure_tup (q := some x9) (sure_one ho1 (by omega) hx9) ho1.symm, S11.le⟩

/-- couchant/couchantlaw03.few. -/
theorem c_few (b : Sm) (vm vf : Value) (l : List Sg) (vs : Value) (c : List Clm) (vq : Value) (w : World) (hB : SmR 39 41 w vm vf b) (hF : Rd ESG w vs l) (hC : Rd ECL w vq c) :
    Cl Tryz.prog 19 #[.agg #[vm, vf], vs, vq] w fun v w' => ∃ q : Bool, v = .bool q ∧ Le w w' := by
  refine fn_of_run (args := [_, _, _]) 57 Tryz.func19 rfl rfl rfl fun cs => ?_
  have S := Own.start (X := nob) w
  refine r_seq ?_
  refine r_region ?_
  refine l_box S rfl rfl ?_
  intro b4 w1 S2 hl3
  refine l_x rfl (x_as rfl) ?_
  refine l_nil ?_
  refine r_seq ?_
  refine r_seq ?_
  refine r_region ?_
  refine l_x rfl (x_fieldAddr rfl Tryz.runUnderlying25 rfl Tryz.sizeOf22 (by decide)) ?_
  refine l_x rfl (x_load rfl (ld_blk (S2.blk 0 rfl) Tryz.isAgg22 rfl)) ?_
  refine l_x rfl (x_len (hB.m.le S2.le) rfl Tryz.runUnderlying22) ?_
  refine l_x rfl (x_gtr rfl rfl) ?_
  refine l_x rfl (x_mv rfl) ?_
  refine l_splitd (d := 11) rfl (fun hg11 => ?_) (fun hg11 => ?_)
  · skip
    refine l_x rfl (x_fieldAddr rfl Tryz.runUnderlying25 rfl Tryz.sizeOf22 (by decide)) ?_
    refine l_x rfl (x_load rfl (ld_blk (S2.blk 0 rfl) Tryz.isAgg22 rfl)) ?_
    refine l_x rfl (x_len (hB.m.le S2.le) rfl Tryz.runUnderlying22) ?_
    refine l_x rfl (x_leq rfl rfl) ?_
    refine l_x rfl (x_pick_t rfl rfl) ?_
    refine l_x rfl (x_mv rfl) ?_
    refine l_splitd (d := 17) rfl (fun hg17 => ?_) (fun hg17 => ?_)
    · skip
      refine l_pass rfl ?_
      refine l_pass rfl ?_
      refine l_pass rfl ?_
      refine l_pass rfl ?_
      refine l_x rfl (x_pick_t rfl rfl) ?_
      refine l_x rfl (x_mv rfl) ?_
      refine l_pass rfl ?_
      refine l_pass rfl ?_
      refine l_pass rfl ?_
      refine l_pass rfl ?_
      refine l_x rfl (x_pick_t rfl rfl) ?_
      refine l_nil ?_
      refine r_true rfl ?_
      refine r_seq ?_
      refine r_region ?_
      refine l_x rfl (x_as rfl) ?_
      refine l_nil ?_
      refine r_ret (rs := [.tmp 6]) [_] Tryz.func19 rfl ⟨rfl, trivial⟩ ?_
      exact ⟨_, rfl, S2.le⟩
    refine l_x rfl (x_fieldAddr rfl Tryz.runUnderlying25 rfl Tryz.sizeOf22 (by decide)) ?_
    refine l_x rfl (x_load rfl (ld_blk (S2.blk 0 rfl) Tryz.isAgg22 rfl)) ?_
    refine l_x rfl (x_len (hB.m.le S2.le) rfl Tryz.runUnderlying22) ?_
    refine l_x rfl (x_gtr rfl rfl) ?_
    refine l_x rfl (x_pick_f rfl rfl) ?_
    refine l_x rfl (x_mv rfl) ?_
    refine l_splitd (d := 23) rfl (fun hg23 => ?_) (fun hg23 => ?_)
    · skip
      refine l_pass rfl ?_
      refine l_pass rfl ?_
      refine l_pass rfl ?_
      refine l_pass rfl ?_
      refine l_x rfl (x_pick_t rfl rfl) ?_
      refine l_nil ?_
      refine r_true rfl ?_
      refine r_seq ?_
      refine r_region ?_
      refine l_x rfl (x_as rfl) ?_
      refine l_nil ?_
      refine r_ret (rs := [.tmp 6]) [_] Tryz.func19 rfl ⟨rfl, trivial⟩ ?_
      exact ⟨_, rfl, S2.le⟩
    refine l_x rfl (x_fieldAddr rfl Tryz.runUnderlying25 rfl Tryz.sizeOf23 (by decide)) ?_
    refine l_x rfl (x_load rfl (ld_blk (S2.blk 0 rfl) Tryz.isAgg23 rfl)) ?_
    refine l_x rfl (x_len (hB.f.le S2.le) rfl Tryz.runUnderlying23) ?_
    refine l_x rfl (x_gtr rfl rfl) ?_
    refine l_x rfl (x_pick_f rfl rfl) ?_
    refine l_nil ?_
    refine r_ifd rfl (fun hc28 => ?_) (fun hc28 => ?_)
    · skip
      refine r_seq ?_
      refine r_region ?_
      refine l_x rfl (x_as rfl) ?_
      refine l_nil ?_
      refine r_ret (rs := [.tmp 6]) [_] Tryz.func19 rfl ⟨rfl, trivial⟩ ?_
      exact ⟨_, rfl, S2.le⟩
    refine r_skip ?_
    refine r_seq ?_
    refine r_region ?_
    refine l_x rfl (x_mv rfl) ?_
    refine l_x rfl (x_len (hF.le S2.le) rfl Tryz.runUnderlying50) ?_
    refine l_x rfl (x_leq rfl rfl) ?_
    refine l_x rfl (x_mv rfl) ?_
    refine l_splitd (d := 32) rfl (fun hg32 => ?_) (fun hg32 => ?_)
    · skip
      refine l_pass rfl ?_
      refine l_pass rfl ?_
      refine l_pass rfl ?_
      refine l_pass rfl ?_
      refine l_pass rfl ?_
      refine l_pass rfl ?_
      refine l_pass rfl ?_
      refine l_pass rfl ?_
      refine l_x rfl (x_pick_t rfl rfl) ?_
      refine l_x rfl (x_mv rfl) ?_
      refine l_x rfl (x_mv rfl) ?_
      refine l_x rfl (x_len (hC.le S2.le) rfl Tryz.runUnderlying51) ?_
      refine l_x rfl (x_leq rfl rfl) ?_
      refine l_x rfl (x_mv rfl) ?_
      refine l_splitd (d := 46) rfl (fun hg46 => ?_) (fun hg46 => ?_)
      · skip
        refine l_pass rfl ?_
        refine l_pass rfl ?_
        refine l_pass rfl ?_
        refine l_pass rfl ?_
        refine l_pass rfl ?_
        refine l_pass rfl ?_
        refine l_pass rfl ?_
        refine l_pass rfl ?_
        refine l_x rfl (x_pick_t rfl rfl) ?_
        refine l_x rfl (x_pick_t rfl rfl) ?_
        refine l_x rfl (x_as rfl) ?_
        refine l_nil ?_
        refine r_ret (rs := [.tmp 6]) [_] Tryz.func19 rfl ⟨rfl, trivial⟩ ?_
        exact ⟨_, rfl, S2.le⟩
      refine l_x rfl (x_mv rfl) ?_
      refine l_x rfl (x_len (hC.le S2.le) rfl Tryz.runUnderlying51) ?_
      refine l_x rfl (x_gtr rfl rfl) ?_
      refine l_x rfl (x_mv rfl) ?_
      refine l_splitd (d := 50) rfl (fun hg50 => ?_) (fun hg50 => ?_)
      · skip
        refine l_x rfl (x_mv rfl) ?_
        refine l_x rfl (x_len (hC.le S2.le) rfl Tryz.runUnderlying51) ?_
        refine l_x rfl (x_leq rfl rfl) ?_
        refine l_x rfl (x_pick_t rfl rfl) ?_
        refine l_x rfl (x_pick_f rfl rfl) ?_
        refine l_x rfl (x_pick_t rfl rfl) ?_
        refine l_x rfl (x_as rfl) ?_
        refine l_nil ?_
        refine r_ret (rs := [.tmp 6]) [_] Tryz.func19 rfl ⟨rfl, trivial⟩ ?_
        exact ⟨_, rfl, S2.le⟩
      refine l_pass rfl ?_
      refine l_pass rfl ?_
      refine l_pass rfl ?_
      refine l_x rfl (x_pick_f rfl rfl) ?_
      refine l_x rfl (x_pick_f rfl rfl) ?_
      refine l_x rfl (x_pick_t rfl rfl) ?_
      refine l_x rfl (x_as rfl) ?_
      refine l_nil ?_
      refine r_ret (rs := [.tmp 6]) [_] Tryz.func19 rfl ⟨rfl, trivial⟩ ?_
      exact ⟨_, rfl, S2.le⟩
    refine l_x rfl (x_mv rfl) ?_
    refine l_x rfl (x_len (hF.le S2.le) rfl Tryz.runUnderlying50) ?_
    refine l_x rfl (x_gtr rfl rfl) ?_
    refine l_x rfl (x_mv rfl) ?_
    refine l_splitd (d := 36) rfl (fun hg36 => ?_) (fun hg36 => ?_)
    · skip
      refine l_x rfl (x_mv rfl) ?_
      refine l_x rfl (x_len (hF.le S2.le) rfl Tryz.runUnderlying50) ?_
      refine l_x rfl (x_leq rfl rfl) ?_
      refine l_x rfl (x_pick_t rfl rfl) ?_
      refine l_x rfl (x_pick_f rfl rfl) ?_
      refine l_x rfl (x_mv rfl) ?_
      refine l_splitd (d := 42) rfl (fun hg42 => ?_) (fun hg42 => ?_)
      · skip
        refine l_x rfl (x_mv rfl) ?_
        refine l_x rfl (x_len (hC.le S2.le) rfl Tryz.runUnderlying51) ?_
        refine l_x rfl (x_leq rfl rfl) ?_
        refine l_x rfl (x_mv rfl) ?_
        refine l_splitd (d := 46) rfl (fun hg46 => ?_) (fun hg46 => ?_)
        · skip
          refine l_pass rfl ?_
          refine l_pass rfl ?_
          refine l_pass rfl ?_
          refine l_pass rfl ?_
          refine l_pass rfl ?_
          refine l_pass rfl ?_
          refine l_pass rfl ?_
          refine l_pass rfl ?_
          refine l_x rfl (x_pick_t rfl rfl) ?_
          refine l_x rfl (x_pick_t rfl rfl) ?_
          refine l_x rfl (x_as rfl) ?_
          refine l_nil ?_
          refine r_ret (rs := [.tmp 6]) [_] Tryz.func19 rfl ⟨rfl, trivial⟩ ?_
          exact ⟨_, rfl, S2.le⟩
        refine l_x rfl (x_mv rfl) ?_
        refine l_x rfl (x_len (hC.le S2.le) rfl Tryz.runUnderlying51) ?_
        refine l_x rfl (x_gtr rfl rfl) ?_
        refine l_x rfl (x_mv rfl) ?_
        refine l_splitd (d := 50) rfl (fun hg50 => ?_) (fun hg50 => ?_)
        · skip
          refine l_x rfl (x_mv rfl) ?_
          refine l_x rfl (x_len (hC.le S2.le) rfl Tryz.runUnderlying51) ?_
          refine l_x rfl (x_leq rfl rfl) ?_
          refine l_x rfl (x_pick_t rfl rfl) ?_
          refine l_x rfl (x_pick_f rfl rfl) ?_
          refine l_x rfl (x_pick_t rfl rfl) ?_
          refine l_x rfl (x_as rfl) ?_
          refine l_nil ?_
          refine r_ret (rs := [.tmp 6]) [_] Tryz.func19 rfl ⟨rfl, trivial⟩ ?_
          exact ⟨_, rfl, S2.le⟩
        refine l_pass rfl ?_
        refine l_pass rfl ?_
        refine l_pass rfl ?_
        refine l_x rfl (x_pick_f rfl rfl) ?_
        refine l_x rfl (x_pick_f rfl rfl) ?_
        refine l_x rfl (x_pick_t rfl rfl) ?_
        refine l_x rfl (x_as rfl) ?_
        refine l_nil ?_
        refine r_ret (rs := [.tmp 6]) [_] Tryz.func19 rfl ⟨rfl, trivial⟩ ?_
        exact ⟨_, rfl, S2.le⟩
      refine l_pass rfl ?_
      refine l_pass rfl ?_
      refine l_pass rfl ?_
      refine l_pass rfl ?_
      refine l_pass rfl ?_
      refine l_pass rfl ?_
      refine l_pass rfl ?_
      refine l_pass rfl ?_
      refine l_pass rfl ?_
      refine l_pass rfl ?_
      refine l_pass rfl ?_
      refine l_pass rfl ?_
      refine l_pass rfl ?_
      refine l_x rfl (x_pick_f rfl rfl) ?_
      refine l_x rfl (x_as rfl) ?_
      refine l_nil ?_
      refine r_ret (rs := [.tmp 6]) [_] Tryz.func19 rfl ⟨rfl, trivial⟩ ?_
      exact ⟨_, rfl, S2.le⟩
    refine l_pass rfl ?_
    refine l_pass rfl ?_
    refine l_pass rfl ?_
    refine l_x rfl (x_pick_f rfl rfl) ?_
    refine l_x rfl (x_pick_f rfl rfl) ?_
    refine l_x rfl (x_mv rfl) ?_
    refine l_pass rfl ?_
    refine l_pass rfl ?_
    refine l_pass rfl ?_
    refine l_pass rfl ?_
    refine l_pass rfl ?_
    refine l_pass rfl ?_
    refine l_pass rfl ?_
    refine l_pass rfl ?_
    refine l_pass rfl ?_
    refine l_pass rfl ?_
    refine l_pass rfl ?_
    refine l_pass rfl ?_
    refine l_pass rfl ?_
    refine l_x rfl (x_pick_f rfl rfl) ?_
    refine l_x rfl (x_as rfl) ?_
    refine l_nil ?_
    refine r_ret (rs := [.tmp 6]) [_] Tryz.func19 rfl ⟨rfl, trivial⟩ ?_
    exact ⟨_, rfl, S2.le⟩
  refine l_pass rfl ?_
  refine l_pass rfl ?_
  refine l_pass rfl ?_
  refine l_pass rfl ?_
  refine l_x rfl (x_pick_f rfl rfl) ?_
  refine l_x rfl (x_mv rfl) ?_
  refine l_x rfl (x_fieldAddr rfl Tryz.runUnderlying25 rfl Tryz.sizeOf22 (by decide)) ?_
  refine l_x rfl (x_load rfl (ld_blk (S2.blk 0 rfl) Tryz.isAgg22 rfl)) ?_
  refine l_x rfl (x_len (hB.m.le S2.le) rfl Tryz.runUnderlying22) ?_
  refine l_x rfl (x_gtr rfl rfl) ?_
  refine l_x rfl (x_pick_f rfl rfl) ?_
  refine l_x rfl (x_mv rfl) ?_
  refine l_splitd (d := 23) rfl (fun hg23 => ?_) (fun hg23 => ?_)
  · skip
    refine l_pass rfl ?_
    refine l_pass rfl ?_
    refine l_pass rfl ?_
    refine l_pass rfl ?_
    refine l_x rfl (x_pick_t rfl rfl) ?_
    refine l_nil ?_
    refine r_true rfl ?_
    refine r_seq ?_
    refine r_region ?_
    refine l_x rfl (x_as rfl) ?_
    refine l_nil ?_
    refine r_ret (rs := [.tmp 6]) [_] Tryz.func19 rfl ⟨rfl, trivial⟩ ?_
    exact ⟨_, rfl, S2.le⟩
  refine l_x rfl (x_fieldAddr rfl Tryz.runUnderlying25 rfl Tryz.sizeOf23 (by decide)) ?_
  refine l_x rfl (x_load rfl (ld_blk (S2.blk 0 rfl) Tryz.isAgg23 rfl)) ?_
  refine l_x rfl (x_len (hB.f.le S2.le) rfl Tryz.runUnderlying23) ?_
  refine l_x rfl (x_gtr rfl rfl) ?_
  refine l_x rfl (x_pick_f rfl rfl) ?_
  refine l_nil ?_
  refine r_ifd rfl (fun hc28 => ?_) (fun hc28 => ?_)
  · skip
    refine r_seq ?_
    refine r_region ?_
    refine l_x rfl (x_as rfl) ?_
    refine l_nil ?_
    refine r_ret (rs := [.tmp 6]) [_] Tryz.func19 rfl ⟨rfl, trivial⟩ ?_
    exact ⟨_, rfl, S2.le⟩
  refine r_skip ?_
  refine r_seq ?_
  refine r_region ?_
  refine l_x rfl (x_mv rfl) ?_
  refine l_x rfl (x_len (hF.le S2.le) rfl Tryz.runUnderlying50) ?_
  refine l_x rfl (x_leq rfl rfl) ?_
  refine l_x rfl (x_mv rfl) ?_
  refine l_splitd (d := 32) rfl (fun hg32 => ?_) (fun hg32 => ?_)
  · skip
    refine l_pass rfl ?_
    refine l_pass rfl ?_
    refine l_pass rfl ?_
    refine l_pass rfl ?_
    refine l_pass rfl ?_
    refine l_pass rfl ?_
    refine l_pass rfl ?_
    refine l_pass rfl ?_
    refine l_x rfl (x_pick_t rfl rfl) ?_
    refine l_x rfl (x_mv rfl) ?_
    refine l_x rfl (x_mv rfl) ?_
    refine l_x rfl (x_len (hC.le S2.le) rfl Tryz.runUnderlying51) ?_
    refine l_x rfl (x_leq rfl rfl) ?_
    refine l_x rfl (x_mv rfl) ?_
    refine l_splitd (d := 46) rfl (fun hg46 => ?_) (fun hg46 => ?_)
    · skip
      refine l_pass rfl ?_
      refine l_pass rfl ?_
      refine l_pass rfl ?_
      refine l_pass rfl ?_
      refine l_pass rfl ?_
      refine l_pass rfl ?_
      refine l_pass rfl ?_
      refine l_pass rfl ?_
      refine l_x rfl (x_pick_t rfl rfl) ?_
      refine l_x rfl (x_pick_t rfl rfl) ?_
      refine l_x rfl (x_as rfl) ?_
      refine l_nil ?_
      refine r_ret (rs := [.tmp 6]) [_] Tryz.func19 rfl ⟨rfl, trivial⟩ ?_
      exact ⟨_, rfl, S2.le⟩
    refine l_x rfl (x_mv rfl) ?_
    refine l_x rfl (x_len (hC.le S2.le) rfl Tryz.runUnderlying51) ?_
    refine l_x rfl (x_gtr rfl rfl) ?_
    refine l_x rfl (x_mv rfl) ?_
    refine l_splitd (d := 50) rfl (fun hg50 => ?_) (fun hg50 => ?_)
    · skip
      refine l_x rfl (x_mv rfl) ?_
      refine l_x rfl (x_len (hC.le S2.le) rfl Tryz.runUnderlying51) ?_
      refine l_x rfl (x_leq rfl rfl) ?_
      refine l_x rfl (x_pick_t rfl rfl) ?_
      refine l_x rfl (x_pick_f rfl rfl) ?_
      refine l_x rfl (x_pick_t rfl rfl) ?_
      refine l_x rfl (x_as rfl) ?_
      refine l_nil ?_
      refine r_ret (rs := [.tmp 6]) [_] Tryz.func19 rfl ⟨rfl, trivial⟩ ?_
      exact ⟨_, rfl, S2.le⟩
    refine l_pass rfl ?_
    refine l_pass rfl ?_
    refine l_pass rfl ?_
    refine l_x rfl (x_pick_f rfl rfl) ?_
    refine l_x rfl (x_pick_f rfl rfl) ?_
    refine l_x rfl (x_pick_t rfl rfl) ?_
    refine l_x rfl (x_as rfl) ?_
    refine l_nil ?_
    refine r_ret (rs := [.tmp 6]) [_] Tryz.func19 rfl ⟨rfl, trivial⟩ ?_
    exact ⟨_, rfl, S2.le⟩
  refine l_x rfl (x_mv rfl) ?_
  refine l_x rfl (x_len (hF.le S2.le) rfl Tryz.runUnderlying50) ?_
  refine l_x rfl (x_gtr rfl rfl) ?_
  refine l_x rfl (x_mv rfl) ?_
  refine l_splitd (d := 36) rfl (fun hg36 => ?_) (fun hg36 => ?_)
  · skip
    refine l_x rfl (x_mv rfl) ?_
    refine l_x rfl (x_len (hF.le S2.le) rfl Tryz.runUnderlying50) ?_
    refine l_x rfl (x_leq rfl rfl) ?_
    refine l_x rfl (x_pick_t rfl rfl) ?_
    refine l_x rfl (x_pick_f rfl rfl) ?_
    refine l_x rfl (x_mv rfl) ?_
    refine l_splitd (d := 42) rfl (fun hg42 => ?_) (fun hg42 => ?_)
    · skip
      refine l_x rfl (x_mv rfl) ?_
      refine l_x rfl (x_len (hC.le S2.le) rfl Tryz.runUnderlying51) ?_
      refine l_x rfl (x_leq rfl rfl) ?_
      refine l_x rfl (x_mv rfl) ?_
      refine l_splitd (d := 46) rfl (fun hg46 => ?_) (fun hg46 => ?_)
      · skip
        refine l_pass rfl ?_
        refine l_pass rfl ?_
        refine l_pass rfl ?_
        refine l_pass rfl ?_
        refine l_pass rfl ?_
        refine l_pass rfl ?_
        refine l_pass rfl ?_
        refine l_pass rfl ?_
        refine l_x rfl (x_pick_t rfl rfl) ?_
        refine l_x rfl (x_pick_t rfl rfl) ?_
        refine l_x rfl (x_as rfl) ?_
        refine l_nil ?_
        refine r_ret (rs := [.tmp 6]) [_] Tryz.func19 rfl ⟨rfl, trivial⟩ ?_
        exact ⟨_, rfl, S2.le⟩
      refine l_x rfl (x_mv rfl) ?_
      refine l_x rfl (x_len (hC.le S2.le) rfl Tryz.runUnderlying51) ?_
      refine l_x rfl (x_gtr rfl rfl) ?_
      refine l_x rfl (x_mv rfl) ?_
      refine l_splitd (d := 50) rfl (fun hg50 => ?_) (fun hg50 => ?_)
      · skip
        refine l_x rfl (x_mv rfl) ?_
        refine l_x rfl (x_len (hC.le S2.le) rfl Tryz.runUnderlying51) ?_
        refine l_x rfl (x_leq rfl rfl) ?_
        refine l_x rfl (x_pick_t rfl rfl) ?_
        refine l_x rfl (x_pick_f rfl rfl) ?_
        refine l_x rfl (x_pick_t rfl rfl) ?_
        refine l_x rfl (x_as rfl) ?_
        refine l_nil ?_
        refine r_ret (rs := [.tmp 6]) [_] Tryz.func19 rfl ⟨rfl, trivial⟩ ?_
        exact ⟨_, rfl, S2.le⟩
      refine l_pass rfl ?_
      refine l_pass rfl ?_
      refine l_pass rfl ?_
      refine l_x rfl (x_pick_f rfl rfl) ?_
      refine l_x rfl (x_pick_f rfl rfl) ?_
      refine l_x rfl (x_pick_t rfl rfl) ?_
      refine l_x rfl (x_as rfl) ?_
      refine l_nil ?_
      refine r_ret (rs := [.tmp 6]) [_] Tryz.func19 rfl ⟨rfl, trivial⟩ ?_
      exact ⟨_, rfl, S2.le⟩
    refine l_pass rfl ?_
    refine l_pass rfl ?_
    refine l_pass rfl ?_
    refine l_pass rfl ?_
    refine l_pass rfl ?_
    refine l_pass rfl ?_
    refine l_pass rfl ?_
    refine l_pass rfl ?_
    refine l_pass rfl ?_
    refine l_pass rfl ?_
    refine l_pass rfl ?_
    refine l_pass rfl ?_
    refine l_pass rfl ?_
    refine l_x rfl (x_pick_f rfl rfl) ?_
    refine l_x rfl (x_as rfl) ?_
    refine l_nil ?_
    refine r_ret (rs := [.tmp 6]) [_] Tryz.func19 rfl ⟨rfl, trivial⟩ ?_
    exact ⟨_, rfl, S2.le⟩
  refine l_pass rfl ?_
  refine l_pass rfl ?_
  refine l_pass rfl ?_
  refine l_x rfl (x_pick_f rfl rfl) ?_
  refine l_x rfl (x_pick_f rfl rfl) ?_
  refine l_x rfl (x_mv rfl) ?_
  refine l_pass rfl ?_
  refine l_pass rfl ?_
  refine l_pass rfl ?_
  refine l_pass rfl ?_
  refine l_pass rfl ?_
  refine l_pass rfl ?_
  refine l_pass rfl ?_
  refine l_pass rfl ?_
  refine l_pass rfl ?_
  refine l_pass rfl ?_
  refine l_pass rfl ?_
  refine l_pass rfl ?_
  refine l_pass rfl ?_
  refine l_x rfl (x_pick_f rfl rfl) ?_
  refine l_x rfl (x_as rfl) ?_
  refine l_nil ?_
  refine r_ret (rs := [.tmp 6]) [_] Tryz.func19 rfl ⟨rfl, trivial⟩ ?_
  exact ⟨_, rfl, S2.le⟩

end Go.Proofs
