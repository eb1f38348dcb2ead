/- Texts joined for claims: M8. -/
import Derived.Test.YtaigapdghhoncaaGreatDoorK08fab68cc6
import Derived.Test.YtaigapdghhoncaaGreatDoorK0d4e033ce2
set_option linter.unusedVariables false
set_option linter.unusedSimpArgs false
set_option linter.unusedSectionVars false
/-
  Contracts of functions of the program: each by symbolic execution of its text.
-/
namespace Go.Proofs
open Go Go.Vk Go.Vk.Flow

open Go.Vk.Mark
open Go.Vk.Deed (i64 rng rng_iff owners sumI sumI_cons sumI_snoc)

set_option maxHeartbeats 2000000 in
/-- couchant/mark.Alike. -/
theorem c_Alike (b : Sm) (vm vf : Value) (day x y : Int) (w : World) (hB : SmR 39 41 w vm vf b) :
    Cl Tryz.prog 53 #[.agg #[vm, vf], Value.int .i64 day, Value.int .i64 x, Value.int .i64 y] w fun v w' => v = .tuple #[Value.agg (encSg ((aliQ b day x y).getD zeroSg)).toArray, .bool (aliQ b day x y).isSome, .int .i64 (aliE b day x y)] ∧ Le w w' := by
  refine fn_of_run (args := [_, _, _, _]) 64 Tryz.func53 rfl rfl rfl fun cs => ?_
  have S := Own.start (X := nob) w
  refine r_seq ?_
  refine r_region ?_
  refine l_box S rfl rfl ?_
  intro b4 w1 S2 hl3
  refine l_alloc S2 rfl Tryz.zeroValue30 rfl ?_
  intro b8 w5 S6 hl7
  refine l_x rfl (x_as rfl) ?_
  refine l_x rfl (x_as rfl) ?_
  refine l_nil ?_
  refine r_seq ?_
  refine r_drawE 13 nob Tryz.mixed (by kernel_rfl) ?_
  intro w9 hl10
  have S11 := S6.step hl10
  refine e_exact 0 _ (by kernel_rfl) rfl rfl (by kernel_rfl) rfl (ex_x rfl (fun w1 h1 => x_load rfl (ld_blks ((S11.step h1).blk 0 rfl) Tryz.isAgg25 Tryz.sizeOf25 rfl rfl))) ?_
  refine e_exact 1 _ (by kernel_rfl) rfl rfl (by kernel_rfl) rfl (ex_x rfl (fun w1 h1 => x_mv rfl)) ?_
  refine e_exact 2 _ (by kernel_rfl) rfl rfl (by kernel_rfl) rfl (ex_x rfl (fun w1 h1 => x_mv rfl)) ?_
  refine e_next [3] (by kernel_rfl) (by kernel_rfl) ⟨⟨_, _, rfl, rfl, ?_⟩, trivial⟩
  refine s_callf [] [] [_] rfl rfl Tryz.call78 rfl ((c_isOwner _ _).mono ?_)
  rintro _ w12 ⟨rfl, hl14⟩
  have S13 := S11.step hl14
  refine ⟨.of_le hl14, ?_⟩
  refine e_exact 4 _ (by kernel_rfl) rfl rfl (by kernel_rfl) rfl (ex_x rfl (fun w1 h1 => x_mv rfl)) ?_
  refine e_split (d := 22) rfl (fun hg22 => ?_) (fun hg22 => ?_)
  · skip
    refine e_exact 5 _ (by kernel_rfl) rfl rfl (by kernel_rfl) rfl (ex_x rfl (fun w1 h1 => x_mv rfl)) ?_
    refine e_next [6] (by kernel_rfl) (by kernel_rfl) ⟨⟨_, _, rfl, rfl, ?_⟩, trivial⟩
    refine s_callf [] [] [_] rfl rfl Tryz.call78 rfl ((c_isOwner _ _).mono ?_)
    rintro _ w15 ⟨rfl, hl17⟩
    have S16 := S13.step hl17
    refine ⟨.of_le hl17, ?_⟩
    refine e_exact 7 _ (by kernel_rfl) rfl rfl (by kernel_rfl) rfl (ex_x rfl (fun w1 h1 => x_pick_t rfl rfl)) ?_
    refine e_next [8] (by kernel_rfl) (by kernel_rfl) ⟨⟨_, _, rfl, rfl, ?_⟩, trivial⟩
    refine s_callf [] [] [_, _, _] rfl rfl Tryz.call73 rfl ((c_opened b vm vf day _ _ (hB.le S16.le)).mono ?_)
    rintro _ w18 (⟨e9, hne9, rfl, he9, hl2618⟩ | ⟨bb9, vm9, mm9, g9, rfl, ho9, hK9, hN2618, hl2618⟩)
    · skip
      have S19 := S16.step hl2618
      refine ⟨.of_le hl2618, ?_⟩
      refine e_exact 9 _ (by kernel_rfl) rfl rfl (by kernel_rfl) rfl (ex_x rfl (fun w1 h1 => x_mv rfl)) ?_
      refine e_exact 10 _ (by kernel_rfl) rfl rfl (by kernel_rfl) rfl (ex_x rfl (fun w1 h1 => x_extract rfl rfl)) ?_
      refine e_exact 11 _ (by kernel_rfl) rfl rfl (by kernel_rfl) rfl (ex_x rfl (fun w1 h1 => x_extract rfl rfl)) ?_
      refine e_exact 12 _ (by kernel_rfl) rfl rfl (by kernel_rfl) rfl (ex_x rfl (fun w1 h1 => x_as rfl)) ?_
      refine e_done (by kernel_rfl) ?_
      refine l_x rfl (x_as rfl) ?_
      refine l_nil ?_
      refine r_seq ?_
      refine r_seq ?_
      refine r_region ?_
      refine l_x rfl (x_mv rfl) ?_
      refine l_x rfl (x_neq rfl rfl) ?_
      refine l_nil ?_
      refine r_ifd rfl (fun hc30 => ?_) (fun hc30 => ?_)
      · skip
        refine r_seq ?_
        refine r_region ?_
        refine l_x rfl (x_buildS (out := [_, _, _, _, _, _]) (ss := [6]) Tryz.zeroValue30 rfl Tryz.runUnderlying30 ⟨Tryz.sizeOf28, trivial⟩ fill_nil) ?_
        refine l_x rfl (x_mv rfl) ?_
        refine l_stores (vs := [_, _, _, _, _, _]) S19 1 rfl rfl rfl rfl (ones_cons rfl (ones_cons rfl (ones_cons rfl (ones_cons rfl (ones_cons rfl (ones_cons rfl ones_nil)))))) Tryz.sizeOf30 (by first | exact Nat.le_refl _ | simp) (splice_all rfl) ?_
        intro w20 S21 hk22
        refine l_x rfl (x_as rfl) ?_
        refine l_x rfl (x_as rfl) ?_
        refine l_nil ?_
        refine r_ret (rs := [.cell 8 30, .tmp 9, .tmp 10]) [_, _, _] Tryz.func53 rfl ⟨⟨_, rfl, (ld_blks (S21.blk 1 rfl) Tryz.isAgg30 Tryz.sizeOf30 rfl rfl)⟩, rfl, rfl, trivial⟩ ?_
        exact ⟨ali_tup (q := none) (aliQ_bad hne9 (he9.trans (ali_right (by simpa using hg22)).symm)) (aliE_bad hne9 (he9.trans (ali_right (by simpa using hg22)).symm)), S21.le⟩
      exact absurd hne9 hc30
    have S23 := S16.add hl2618 hN2618
    refine ⟨.of_le hl2618, ?_⟩
    refine e_exact 9 _ (by kernel_rfl) rfl rfl (by kernel_rfl) rfl (ex_x rfl (fun w1 h1 => x_mv rfl)) ?_
    refine e_exact 10 _ (by kernel_rfl) rfl rfl (by kernel_rfl) rfl (ex_x rfl (fun w1 h1 => x_extract rfl rfl)) ?_
    refine e_exact 11 _ (by kernel_rfl) rfl rfl (by kernel_rfl) rfl (ex_x rfl (fun w1 h1 => x_extract rfl rfl)) ?_
    refine e_exact 12 _ (by kernel_rfl) rfl rfl (by kernel_rfl) rfl (ex_x rfl (fun w1 h1 => x_as rfl)) ?_
    refine e_done (by kernel_rfl) ?_
    refine l_x rfl (x_as rfl) ?_
    refine l_nil ?_
    refine r_seq ?_
    refine r_seq ?_
    refine r_region ?_
    refine l_x rfl (x_mv rfl) ?_
    refine l_x rfl (x_neq rfl rfl) ?_
    refine l_nil ?_
    refine r_ifd rfl (fun hc30 => ?_) (fun hc30 => ?_)
    · exact absurd rfl hc30
    refine r_skip ?_
    refine r_seq ?_
    refine r_region ?_
    refine l_x rfl (x_mv rfl) ?_
    refine l_x rfl (x_mv rfl) ?_
    refine l_call [] [] [_, _] rfl rfl Tryz.call80 rfl (c_of bb9 vm9 mm9 g9 b day x _ (bd_of (S23.ro 2 rfl) hK9)) ?_
    rintro _ w24 (⟨mx, rfl, hmx, hfx, hl3624⟩ | ⟨rfl, hmx, hl3624⟩)
    · skip
      have S25 := S23.step hl3624
      refine l_x rfl (x_mv rfl) ?_
      refine l_x rfl (x_extract rfl rfl) ?_
      refine l_x rfl (x_extract rfl rfl) ?_
      refine l_alloc S25 rfl Tryz.zeroValue39 rfl ?_
      intro b29 w26 S27 hl28
      refine l_stores (vs := [_, _, _, _, _, _, _, _, _]) S27 3 rfl rfl rfl rfl (ones_cons rfl (ones_cons rfl (ones_cons rfl (ones_cons rfl (ones_cons rfl (ones_cons rfl (ones_cons rfl (ones_cons rfl (ones_cons rfl ones_nil))))))))) Tryz.sizeOf39 (by first | exact Nat.le_refl _ | simp) (splice_all rfl) ?_
      intro w30 S31 hk32
      refine l_x rfl (x_as rfl) ?_
      refine l_nil ?_
      refine r_seq ?_
      refine r_seq ?_
      refine r_region ?_
      refine l_x rfl (x_mv rfl) ?_
      refine l_x rfl (x_neq rfl rfl) ?_
      refine l_nil ?_
      refine r_ifd rfl (fun hc40 => ?_) (fun hc40 => ?_)
      · exact absurd rfl hc40
      refine r_skip ?_
      refine r_seq ?_
      refine r_region ?_
      refine l_x rfl (x_mv rfl) ?_
      refine l_x rfl (x_mv rfl) ?_
      refine l_call [] [] [_, _] rfl rfl Tryz.call80 rfl (c_of bb9 vm9 mm9 g9 b day y _ (bd_of (S31.ro 2 rfl) hK9)) ?_
      rintro _ w33 (⟨my, rfl, hmy, hfy, hl4633⟩ | ⟨rfl, hmy, hl4633⟩)
      · skip
        have S34 := S31.step hl4633
        refine l_x rfl (x_mv rfl) ?_
        refine l_x rfl (x_extract rfl rfl) ?_
        refine l_x rfl (x_extract rfl rfl) ?_
        refine l_alloc S34 rfl Tryz.zeroValue39 rfl ?_
        intro b38 w35 S36 hl37
        refine l_stores (vs := [_, _, _, _, _, _, _, _, _]) S36 4 rfl rfl rfl rfl (ones_cons rfl (ones_cons rfl (ones_cons rfl (ones_cons rfl (ones_cons rfl (ones_cons rfl (ones_cons rfl (ones_cons rfl (ones_cons rfl ones_nil))))))))) Tryz.sizeOf39 (by first | exact Nat.le_refl _ | simp) (splice_all rfl) ?_
        intro w39 S40 hk41
        refine l_x rfl (x_as rfl) ?_
        refine l_nil ?_
        refine r_seq ?_
        refine r_seq ?_
        refine r_region ?_
        refine l_x rfl (x_mv rfl) ?_
        refine l_x rfl (x_neq rfl rfl) ?_
        refine l_nil ?_
        refine r_ifd rfl (fun hc50 => ?_) (fun hc50 => ?_)
        · exact absurd rfl hc50
        refine r_skip ?_
        refine r_seq ?_
        refine r_region ?_
        refine l_x rfl (x_mv rfl) ?_
        refine l_x rfl (x_fieldAddr rfl Tryz.runUnderlying39 rfl Tryz.sizeOf28 (by decide)) ?_
        refine l_x rfl (x_load rfl (ld_blks (S40.blk 3 rfl) Tryz.isAgg28 Tryz.sizeOf28 rfl rfl)) ?_
        refine l_x rfl (x_fieldAddr rfl Tryz.runUnderlying39 rfl Tryz.sizeOf28 (by decide)) ?_
        refine l_x rfl (x_load rfl (ld_blks (S40.blk 4 rfl) Tryz.isAgg28 Tryz.sizeOf28 rfl rfl)) ?_
        refine l_call [] [] [_, _, _] rfl rfl Tryz.call76 rfl (c_alike bb9 vm9 mm9 g9 b day mx.s my.s (force_clr hK9.ok hK9.om hfx) (force_clr hK9.ok hK9.om hfy) _ (bd_of (S40.ro 2 rfl) hK9)) ?_
        rintro _ w42 ⟨rfl, hl44⟩
        have S43 := S40.step hl44
        refine l_x rfl (x_mv rfl) ?_
        refine l_x rfl (x_extract rfl rfl) ?_
        refine l_x rfl (x_extract rfl rfl) ?_
        refine l_alloc S43 rfl Tryz.zeroValue30 rfl ?_
        intro b48 w45 S46 hl47
        refine l_stores (vs := [_, _, _, _, _, _]) S46 5 rfl rfl rfl rfl (ones_cons rfl (ones_cons rfl (ones_cons rfl (ones_cons rfl (ones_cons rfl (ones_cons rfl ones_nil)))))) Tryz.sizeOf30 (by first | exact Nat.le_refl _ | simp) (splice_all rfl) ?_
        intro w49 S50 hk51
        refine l_x rfl (x_as rfl) ?_
        refine l_nil ?_
        refine r_seq ?_
        refine r_region ?_
        refine l_x rfl (x_load rfl (ld_blks (S50.blk 5 rfl) Tryz.isAgg30 Tryz.sizeOf30 rfl rfl)) ?_
        refine l_x rfl (x_mv rfl) ?_
        refine l_stores (vs := [_, _, _, _, _, _]) S50 1 rfl rfl rfl rfl (ones_cons rfl (ones_cons rfl (ones_cons rfl (ones_cons rfl (ones_cons rfl (ones_cons rfl ones_nil)))))) Tryz.sizeOf30 (by first | exact Nat.le_refl _ | simp) (splice_all rfl) ?_
        intro w52 S53 hk54
        refine l_x rfl (x_as rfl) ?_
        refine l_x rfl (x_as rfl) ?_
        refine l_nil ?_
        refine r_ret (rs := [.cell 8 30, .tmp 9, .tmp 10]) [_, _, _] Tryz.func53 rfl ⟨⟨_, rfl, (ld_blks (S53.blk 1 rfl) Tryz.isAgg30 Tryz.sizeOf30 rfl rfl)⟩, rfl, rfl, trivial⟩ ?_
        exact ⟨ali_tup (aliQ_ok ((ali_right (by simpa using hg22)).trans ho9) hmx hmy) (aliE_ok ((ali_right (by simpa using hg22)).trans ho9) hmx hmy), S53.le⟩
      have S55 := S31.step hl4633
      refine l_x rfl (x_mv rfl) ?_
      refine l_x rfl (x_extract rfl rfl) ?_
      refine l_x rfl (x_extract rfl rfl) ?_
      refine l_alloc S55 rfl Tryz.zeroValue39 rfl ?_
      intro b59 w56 S57 hl58
      refine l_stores (vs := [_, _, _, _, _, _, _, _, _]) S57 4 rfl rfl rfl rfl (ones_cons rfl (ones_cons rfl (ones_cons rfl (ones_cons rfl (ones_cons rfl (ones_cons rfl (ones_cons rfl (ones_cons rfl (ones_cons rfl ones_nil))))))))) Tryz.sizeOf39 (by first | exact Nat.le_refl _ | simp) (splice_all rfl) ?_
      intro w60 S61 hk62
      refine l_x rfl (x_as rfl) ?_
      refine l_nil ?_
      refine r_seq ?_
      refine r_seq ?_
      refine r_region ?_
      refine l_x rfl (x_mv rfl) ?_
      refine l_x rfl (x_neq rfl rfl) ?_
      refine l_nil ?_
      refine r_ifd rfl (fun hc50 => ?_) (fun hc50 => ?_)
      · skip
        refine r_seq ?_
        refine r_region ?_
        refine l_x rfl (x_buildS (out := [_, _, _, _, _, _]) (ss := [6]) Tryz.zeroValue30 rfl Tryz.runUnderlying30 ⟨Tryz.sizeOf28, trivial⟩ fill_nil) ?_
        refine l_x rfl (x_mv rfl) ?_
        refine l_stores (vs := [_, _, _, _, _, _]) S61 1 rfl rfl rfl rfl (ones_cons rfl (ones_cons rfl (ones_cons rfl (ones_cons rfl (ones_cons rfl (ones_cons rfl ones_nil)))))) Tryz.sizeOf30 (by first | exact Nat.le_refl _ | simp) (splice_all rfl) ?_
        intro w63 S64 hk65
        refine l_x rfl (x_as rfl) ?_
        refine l_x rfl (x_as rfl) ?_
        refine l_nil ?_
        refine r_ret (rs := [.cell 8 30, .tmp 9, .tmp 10]) [_, _, _] Tryz.func53 rfl ⟨⟨_, rfl, (ld_blks (S64.blk 1 rfl) Tryz.isAgg30 Tryz.sizeOf30 rfl rfl)⟩, rfl, rfl, trivial⟩ ?_
        exact ⟨ali_tup (q := none) (aliQ_no2 ((ali_right (by simpa using hg22)).trans ho9) hmx hmy) (aliE_no2 ((ali_right (by simpa using hg22)).trans ho9) hmx hmy), S64.le⟩
      exact absurd hc50 (by decide)
    have S66 := S23.step hl3624
    refine l_x rfl (x_mv rfl) ?_
    refine l_x rfl (x_extract rfl rfl) ?_
    refine l_x rfl (x_extract rfl rfl) ?_
    refine l_alloc S66 rfl Tryz.zeroValue39 rfl ?_
    intro b70 w67 S68 hl69
    refine l_stores (vs := [_, _, _, _, _, _, _, _, _]) S68 3 rfl rfl rfl rfl (ones_cons rfl (ones_cons rfl (ones_cons rfl (ones_cons rfl (ones_cons rfl (ones_cons rfl (ones_cons rfl (ones_cons rfl (ones_cons rfl ones_nil))))))))) Tryz.sizeOf39 (by first | exact Nat.le_refl _ | simp) (splice_all rfl) ?_
    intro w71 S72 hk73
    refine l_x rfl (x_as rfl) ?_
    refine l_nil ?_
    refine r_seq ?_
    refine r_seq ?_
    refine r_region ?_
    refine l_x rfl (x_mv rfl) ?_
    refine l_x rfl (x_neq rfl rfl) ?_
    refine l_nil ?_
    refine r_ifd rfl (fun hc40 => ?_) (fun hc40 => ?_)
    · skip
      refine r_seq ?_
      refine r_region ?_
      refine l_x rfl (x_buildS (out := [_, _, _, _, _, _]) (ss := [6]) Tryz.zeroValue30 rfl Tryz.runUnderlying30 ⟨Tryz.sizeOf28, trivial⟩ fill_nil) ?_
      refine l_x rfl (x_mv rfl) ?_
      refine l_stores (vs := [_, _, _, _, _, _]) S72 1 rfl rfl rfl rfl (ones_cons rfl (ones_cons rfl (ones_cons rfl (ones_cons rfl (ones_cons rfl (ones_cons rfl ones_nil)))))) Tryz.sizeOf30 (by first | exact Nat.le_refl _ | simp) (splice_all rfl) ?_
      intro w74 S75 hk76
      refine l_x rfl (x_as rfl) ?_
      refine l_x rfl (x_as rfl) ?_
      refine l_nil ?_
      refine r_ret (rs := [.cell 8 30, .tmp 9, .tmp 10]) [_, _, _] Tryz.func53 rfl ⟨⟨_, rfl, (ld_blks (S75.blk 1 rfl) Tryz.isAgg30 Tryz.sizeOf30 rfl rfl)⟩, rfl, rfl, trivial⟩ ?_
      exact ⟨ali_tup (q := none) (aliQ_no1 ((ali_right (by simpa using hg22)).trans ho9) hmx) (aliE_no1 ((ali_right (by simpa using hg22)).trans ho9) hmx), S75.le⟩
    exact absurd hc40 (by decide)
  refine e_exact 5 _ (by kernel_rfl) rfl rfl (by kernel_rfl) rfl (ex_pass rfl) ?_
  refine e_exact 6 _ (by kernel_rfl) rfl rfl (by kernel_rfl) rfl (ex_pass rfl) ?_
  refine e_exact 7 _ (by kernel_rfl) rfl rfl (by kernel_rfl) rfl (ex_x rfl (fun w1 h1 => x_pick_f rfl rfl)) ?_
  refine e_next [8] (by kernel_rfl) (by kernel_rfl) ⟨⟨_, _, rfl, rfl, ?_⟩, trivial⟩
  refine s_callf [] [] [_, _, _] rfl rfl Tryz.call73 rfl ((c_opened b vm vf day _ _ (hB.le S13.le)).mono ?_)
  rintro _ w77 (⟨e9, hne9, rfl, he9, hl2677⟩ | ⟨bb9, vm9, mm9, g9, rfl, ho9, hK9, hN2677, hl2677⟩)
  · skip
    have S78 := S13.step hl2677
    refine ⟨.of_le hl2677, ?_⟩
    refine e_exact 9 _ (by kernel_rfl) rfl rfl (by kernel_rfl) rfl (ex_x rfl (fun w1 h1 => x_mv rfl)) ?_
    refine e_exact 10 _ (by kernel_rfl) rfl rfl (by kernel_rfl) rfl (ex_x rfl (fun w1 h1 => x_extract rfl rfl)) ?_
    refine e_exact 11 _ (by kernel_rfl) rfl rfl (by kernel_rfl) rfl (ex_x rfl (fun w1 h1 => x_extract rfl rfl)) ?_
    refine e_exact 12 _ (by kernel_rfl) rfl rfl (by kernel_rfl) rfl (ex_x rfl (fun w1 h1 => x_as rfl)) ?_
    refine e_done (by kernel_rfl) ?_
    refine l_x rfl (x_as rfl) ?_
    refine l_nil ?_
    refine r_seq ?_
    refine r_seq ?_
    refine r_region ?_
    refine l_x rfl (x_mv rfl) ?_
    refine l_x rfl (x_neq rfl rfl) ?_
    refine l_nil ?_
    refine r_ifd rfl (fun hc30 => ?_) (fun hc30 => ?_)
    · skip
      refine r_seq ?_
      refine r_region ?_
      refine l_x rfl (x_buildS (out := [_, _, _, _, _, _]) (ss := [6]) Tryz.zeroValue30 rfl Tryz.runUnderlying30 ⟨Tryz.sizeOf28, trivial⟩ fill_nil) ?_
      refine l_x rfl (x_mv rfl) ?_
      refine l_stores (vs := [_, _, _, _, _, _]) S78 1 rfl rfl rfl rfl (ones_cons rfl (ones_cons rfl (ones_cons rfl (ones_cons rfl (ones_cons rfl (ones_cons rfl ones_nil)))))) Tryz.sizeOf30 (by first | exact Nat.le_refl _ | simp) (splice_all rfl) ?_
      intro w79 S80 hk81
      refine l_x rfl (x_as rfl) ?_
      refine l_x rfl (x_as rfl) ?_
      refine l_nil ?_
      refine r_ret (rs := [.cell 8 30, .tmp 9, .tmp 10]) [_, _, _] Tryz.func53 rfl ⟨⟨_, rfl, (ld_blks (S80.blk 1 rfl) Tryz.isAgg30 Tryz.sizeOf30 rfl rfl)⟩, rfl, rfl, trivial⟩ ?_
      exact ⟨ali_tup (q := none) (aliQ_bad hne9 (he9.trans (ali_left (by simpa using hg22)).symm)) (aliE_bad hne9 (he9.trans (ali_left (by simpa using hg22)).symm)), S80.le⟩
    exact absurd hne9 hc30
  exact absurd (openE_right ho9) (by decide)

set_option maxHeartbeats 2000000 in
/-- couchant/mark.Apart. -/
theorem c_Apart (b : Sm) (vm vf : Value) (x y : Sg) (hx : SgOk x) (hy : SgOk y) (w : World) (hB : SmR 39 41 w vm vf b) :
    Cl Tryz.prog 33 #[.agg #[vm, vf], Value.agg (encSg x).toArray, Value.agg (encSg y).toArray] w fun v w' => (∃ e, e ≠ 0 ∧ v = .tuple #[.int .i64 0, .int .i64 e] ∧ e = aprE b x y ∧ Le w w') ∨ (v = .tuple #[.int .i64 (apart b x y), .int .i64 0] ∧ aprE b x y = 0 ∧ Le w w') := by
  refine fn_of_run (args := [_, _, _]) 53 Tryz.func33 rfl rfl rfl fun cs => ?_
  have S := Own.start (X := nob) w
  refine r_seq ?_
  refine r_region ?_
  refine l_box S rfl rfl ?_
  intro b4 w1 S2 hl3
  refine l_box S2 rfl rfl ?_
  intro b8 w5 S6 hl7
  refine l_box S6 rfl rfl ?_
  intro b12 w9 S10 hl11
  refine l_x rfl (x_as rfl) ?_
  refine l_x rfl (x_as rfl) ?_
  refine l_nil ?_
  refine r_seq ?_
  refine r_drawE 14 nob Tryz.mixed (by kernel_rfl) ?_
  intro w13 hl14
  have S15 := S10.step hl14
  refine e_exact 0 _ (by kernel_rfl) rfl rfl (by kernel_rfl) rfl (ex_x rfl (fun w1 h1 => x_load rfl (ld_blks ((S15.step h1).blk 0 rfl) Tryz.isAgg25 Tryz.sizeOf25 rfl rfl))) ?_
  refine e_exact 1 _ (by kernel_rfl) rfl rfl (by kernel_rfl) rfl (ex_x rfl (fun w1 h1 => x_fieldAddr rfl Tryz.runUnderlying30 rfl Tryz.sizeOf28 (by decide))) ?_
  refine e_exact 2 _ (by kernel_rfl) rfl rfl (by kernel_rfl) rfl (ex_x rfl (fun w1 h1 => x_load rfl (ld_blks ((S15.step h1).blk 1 rfl) Tryz.isAgg28 Tryz.sizeOf28 rfl rfl))) ?_
  refine e_next [3] (by kernel_rfl) (by kernel_rfl) ⟨⟨_, _, rfl, rfl, ?_⟩, trivial⟩
  refine s_callf [] [] [_] rfl rfl Tryz.call102 rfl ((c_isClear _ _).mono ?_)
  rintro _ w16 ⟨rfl, hl18⟩
  have S17 := S15.step hl18
  refine ⟨.of_le hl18, ?_⟩
  refine e_exact 4 _ (by kernel_rfl) rfl rfl (by kernel_rfl) rfl (ex_x rfl (fun w1 h1 => x_mv rfl)) ?_
  refine e_split (d := 19) rfl (fun hg19 => ?_) (fun hg19 => ?_)
  · skip
    refine e_exact 5 _ (by kernel_rfl) rfl rfl (by kernel_rfl) rfl (ex_x rfl (fun w1 h1 => x_fieldAddr rfl Tryz.runUnderlying30 rfl Tryz.sizeOf28 (by decide))) ?_
    refine e_exact 6 _ (by kernel_rfl) rfl rfl (by kernel_rfl) rfl (ex_x rfl (fun w1 h1 => x_load rfl (ld_blks ((S17.step h1).blk 2 rfl) Tryz.isAgg28 Tryz.sizeOf28 rfl rfl))) ?_
    refine e_next [7] (by kernel_rfl) (by kernel_rfl) ⟨⟨_, _, rfl, rfl, ?_⟩, trivial⟩
    refine s_callf [] [] [_] rfl rfl Tryz.call102 rfl ((c_isClear _ _).mono ?_)
    rintro _ w19 ⟨rfl, hl21⟩
    have S20 := S17.step hl21
    refine ⟨.of_le hl21, ?_⟩
    refine e_exact 8 _ (by kernel_rfl) rfl rfl (by kernel_rfl) rfl (ex_x rfl (fun w1 h1 => x_pick_t rfl rfl)) ?_
    refine e_next [9] (by kernel_rfl) (by kernel_rfl) ⟨⟨_, _, rfl, rfl, ?_⟩, trivial⟩
    refine s_callf [] [] [_, _, _] rfl rfl Tryz.call73 rfl ((c_opened b vm vf 0 _ _ (hB.le S20.le)).mono ?_)
    rintro _ w22 (⟨e9, hne9, rfl, he9, hl2422⟩ | ⟨bb9, vm9, mm9, g9, rfl, ho9, hK9, hN2422, hl2422⟩)
    · skip
      have S23 := S20.step hl2422
      refine ⟨.of_le hl2422, ?_⟩
      refine e_exact 10 _ (by kernel_rfl) rfl rfl (by kernel_rfl) rfl (ex_x rfl (fun w1 h1 => x_mv rfl)) ?_
      refine e_exact 11 _ (by kernel_rfl) rfl rfl (by kernel_rfl) rfl (ex_x rfl (fun w1 h1 => x_extract rfl rfl)) ?_
      refine e_exact 12 _ (by kernel_rfl) rfl rfl (by kernel_rfl) rfl (ex_x rfl (fun w1 h1 => x_extract rfl rfl)) ?_
      refine e_exact 13 _ (by kernel_rfl) rfl rfl (by kernel_rfl) rfl (ex_x rfl (fun w1 h1 => x_as rfl)) ?_
      refine e_done (by kernel_rfl) ?_
      refine l_x rfl (x_as rfl) ?_
      refine l_nil ?_
      refine r_seq ?_
      refine r_seq ?_
      refine r_region ?_
      refine l_x rfl (x_mv rfl) ?_
      refine l_x rfl (x_neq rfl rfl) ?_
      refine l_nil ?_
      refine r_ifd rfl (fun hc28 => ?_) (fun hc28 => ?_)
      · skip
        refine r_seq ?_
        refine r_region ?_
        refine l_x rfl (x_mv rfl) ?_
        refine l_x rfl (x_as rfl) ?_
        refine l_x rfl (x_as rfl) ?_
        refine l_nil ?_
        refine r_ret (rs := [.tmp 6, .tmp 7]) [_, _] Tryz.func33 rfl ⟨rfl, rfl, trivial⟩ ?_
        exact .inl ⟨e9, hne9, rfl, he9.trans (apr_right (by simpa using hg19)).symm, S23.le⟩
      exact absurd hne9 hc28
    have S24 := S20.add hl2422 hN2422
    refine ⟨.of_le hl2422, ?_⟩
    refine e_exact 10 _ (by kernel_rfl) rfl rfl (by kernel_rfl) rfl (ex_x rfl (fun w1 h1 => x_mv rfl)) ?_
    refine e_exact 11 _ (by kernel_rfl) rfl rfl (by kernel_rfl) rfl (ex_x rfl (fun w1 h1 => x_extract rfl rfl)) ?_
    refine e_exact 12 _ (by kernel_rfl) rfl rfl (by kernel_rfl) rfl (ex_x rfl (fun w1 h1 => x_extract rfl rfl)) ?_
    refine e_exact 13 _ (by kernel_rfl) rfl rfl (by kernel_rfl) rfl (ex_x rfl (fun w1 h1 => x_as rfl)) ?_
    refine e_done (by kernel_rfl) ?_
    refine l_x rfl (x_as rfl) ?_
    refine l_nil ?_
    refine r_seq ?_
    refine r_seq ?_
    refine r_region ?_
    refine l_x rfl (x_mv rfl) ?_
    refine l_x rfl (x_neq rfl rfl) ?_
    refine l_nil ?_
    refine r_ifd rfl (fun hc28 => ?_) (fun hc28 => ?_)
    · exact absurd rfl hc28
    have hcx : clearB x = true := by simpa using hg19
    have hcy : clearB y = true := openE_right ho9
    refine r_skip ?_
    refine r_seq ?_
    refine r_region ?_
    refine l_x rfl (x_as rfl) ?_
    refine l_nil ?_
    refine r_seq ?_
    refine r_seq ?_
    refine r_region ?_
    refine l_x rfl (x_mv rfl) ?_
    refine l_nil ?_
    refine r_block ?_
    refine r_loop (G := Nat) (fun i => 6 - i) (fun i => [(4, .pointer (some ⟨b8, 0, none⟩)), (5, .pointer (some ⟨b12, 0, none⟩)), (8, .pointer (some ⟨bb9, 0, none⟩)), (10, Value.int .i64 (aprN b x y i)), (30, Value.int .i64 i)]) (fun i w' => (i ≤ 6) ∧ Own nob w w' [bdP bb9 vm9 mm9 g9 b 0, blk b8 (encSg x) 30, blk b12 (encSg y) 30]) 0 ⟨rfl, rfl, rfl, rfl, rfl, trivial⟩ ⟨Nat.zero_le _, (S24.pick [3, 1, 2] (by decide) rfl)⟩ ?_
    rintro i ρ w1 ⟨hi, S1⟩ IH
    refine r_seq ?_
    refine r_region ?_
    refine l_x rfl (x_lss rfl rfl) ?_
    refine l_nil ?_
    refine r_seq ?_
    refine r_ifd rfl (fun hc31 => ?_) (fun hc31 => ?_)
    · skip
      have hab := apr_bd (b := b) (x := x) (y := y) (i := i)
      refine r_skip ?_
      refine r_seq ?_
      refine r_block ?_
      refine r_seq ?_
      refine r_region ?_
      refine l_x rfl (x_mv rfl) ?_
      refine l_x rfl (x_as rfl) ?_
      refine l_nil ?_
      refine r_seq ?_
      refine r_drawR 16 Tryz.mixed (by kernel_rfl) ?_
      refine w_x rfl (fun w1 h1 => x_mv rfl) ?_
      refine w_x rfl (fun w1 h1 => x_mv rfl) ?_
      refine w_x rfl (fun w1 h1 => x_mv rfl) ?_
      refine w_x rfl (fun w1 h1 => x_fieldAddr rfl Tryz.runUnderlying30 rfl Tryz.sizeOf28 (by decide)) ?_
      refine w_x rfl (fun w1 h1 => x_indexAddr_array rfl rfl Tryz.runUnderlying28 Tryz.sizeOf5 (by omega)) ?_
      refine w_x rfl (fun w1 h1 => x_load rfl (ld_blk ((S1.step h1).blk 1 rfl) Tryz.isAgg5 (sgb_get (by omega)))) ?_
      refine w_x rfl (fun w1 h1 => x_mv rfl) ?_
      refine w_x rfl (fun w1 h1 => x_fieldAddr rfl Tryz.runUnderlying30 rfl Tryz.sizeOf28 (by decide)) ?_
      refine w_x rfl (fun w1 h1 => x_indexAddr_array rfl rfl Tryz.runUnderlying28 Tryz.sizeOf5 (by omega)) ?_
      refine w_x rfl (fun w1 h1 => x_load rfl (ld_blk ((S1.step h1).blk 2 rfl) Tryz.isAgg5 (sgb_get (by omega)))) ?_
      refine wd_call [] [] [_, _, _, _] rfl rfl Tryz.call103 rfl (fun w1 h1 => c_common bb9 vm9 mm9 g9 b 0 i (x.get i) (y.get i) ((Clr.mk hx hcx).at (by omega)) ((Clr.mk hy hcy).at (by omega)) _ (bd_of ((S1.step h1).ro 0 rfl) hK9)) ?_
      refine w_x rfl (fun w1 h1 => x_mv rfl) ?_
      refine w_x rfl (fun w1 h1 => x_extract rfl rfl) ?_
      refine w_x rfl (fun w1 h1 => x_extract rfl rfl) ?_
      refine w_x rfl (fun w1 h1 => x_as rfl) ?_
      refine w_x rfl (fun w1 h1 => x_as rfl) ?_
      refine w_nil ?_
      intro w25 hl26
      have S27 := S1.step hl26
      refine l_nil ?_
      refine r_seq ?_
      refine r_region ?_
      refine l_x rfl (x_mv rfl) ?_
      refine l_x rfl (x_not rfl) ?_
      refine l_nil ?_
      refine r_if rfl (fun hc48 => ?_) (fun hc48 => ?_)
      · skip
        refine r_region ?_
        refine l_x rfl (x_mv rfl) ?_
        refine l_x rfl (x_add rfl rfl (by omega)) ?_
        refine l_x rfl (x_as rfl) ?_
        refine l_nil ?_
        refine r_inBlock ?_
        refine r_region ?_
        refine l_x rfl (x_add rfl rfl (by omega)) ?_
        refine l_x rfl (x_mv rfl) ?_
        refine l_nil ?_
        exact IH (i + 1) _ _ (by omega) ⟨rfl, rfl, rfl, (congrArg (Value.int .i64) (apr_yes (by simpa [commonAt] using hc48)).symm), rfl, trivial⟩ ⟨by omega, (S27.take 3)⟩
      refine r_skip ?_
      refine r_inBlock ?_
      refine r_region ?_
      refine l_x rfl (x_add rfl rfl (by omega)) ?_
      refine l_x rfl (x_mv rfl) ?_
      refine l_nil ?_
      exact IH (i + 1) _ _ (by omega) ⟨rfl, rfl, rfl, (congrArg (Value.int .i64) (apr_no (by simpa [commonAt] using hc48)).symm), rfl, trivial⟩ ⟨by omega, (S27.take 3)⟩
    obtain rfl : i = 6 := by omega
    refine r_exit rfl ?_
    refine r_seq ?_
    refine r_region ?_
    refine l_x rfl (x_mv rfl) ?_
    refine l_x rfl (x_as rfl) ?_
    refine l_x rfl (x_as rfl) ?_
    refine l_nil ?_
    refine r_ret (rs := [.tmp 6, .tmp 7]) [_, _] Tryz.func33 rfl ⟨rfl, rfl, trivial⟩ ?_
    exact .inr ⟨congrArg (fun q => Value.tuple #[.int .i64 q, .int .i64 0]) apr_all, (apr_right (by simpa using hg19)).trans ho9, S1.le⟩
  refine e_exact 5 _ (by kernel_rfl) rfl rfl (by kernel_rfl) rfl (ex_pass rfl) ?_
  refine e_exact 6 _ (by kernel_rfl) rfl rfl (by kernel_rfl) rfl (ex_pass rfl) ?_
  refine e_exact 7 _ (by kernel_rfl) rfl rfl (by kernel_rfl) rfl (ex_pass rfl) ?_
  refine e_exact 8 _ (by kernel_rfl) rfl rfl (by kernel_rfl) rfl (ex_x rfl (fun w1 h1 => x_pick_f rfl rfl)) ?_
  refine e_next [9] (by kernel_rfl) (by kernel_rfl) ⟨⟨_, _, rfl, rfl, ?_⟩, trivial⟩
  refine s_callf [] [] [_, _, _] rfl rfl Tryz.call73 rfl ((c_opened b vm vf 0 _ _ (hB.le S17.le)).mono ?_)
  rintro _ w28 (⟨e9, hne9, rfl, he9, hl2428⟩ | ⟨bb9, vm9, mm9, g9, rfl, ho9, hK9, hN2428, hl2428⟩)
  · skip
    have S29 := S17.step hl2428
    refine ⟨.of_le hl2428, ?_⟩
    refine e_exact 10 _ (by kernel_rfl) rfl rfl (by kernel_rfl) rfl (ex_x rfl (fun w1 h1 => x_mv rfl)) ?_
    refine e_exact 11 _ (by kernel_rfl) rfl rfl (by kernel_rfl) rfl (ex_x rfl (fun w1 h1 => x_extract rfl rfl)) ?_
    refine e_exact 12 _ (by kernel_rfl) rfl rfl (by kernel_rfl) rfl (ex_x rfl (fun w1 h1 => x_extract rfl rfl)) ?_
    refine e_exact 13 _ (by kernel_rfl) rfl rfl (by kernel_rfl) rfl (ex_x rfl (fun w1 h1 => x_as rfl)) ?_
    refine e_done (by kernel_rfl) ?_
    refine l_x rfl (x_as rfl) ?_
    refine l_nil ?_
    refine r_seq ?_
    refine r_seq ?_
    refine r_region ?_
    refine l_x rfl (x_mv rfl) ?_
    refine l_x rfl (x_neq rfl rfl) ?_
    refine l_nil ?_
    refine r_ifd rfl (fun hc28 => ?_) (fun hc28 => ?_)
    · skip
      refine r_seq ?_
      refine r_region ?_
      refine l_x rfl (x_mv rfl) ?_
      refine l_x rfl (x_as rfl) ?_
      refine l_x rfl (x_as rfl) ?_
      refine l_nil ?_
      refine r_ret (rs := [.tmp 6, .tmp 7]) [_, _] Tryz.func33 rfl ⟨rfl, rfl, trivial⟩ ?_
      exact .inl ⟨e9, hne9, rfl, he9.trans (apr_left (by simpa using hg19)).symm, S29.le⟩
    exact absurd hne9 hc28
  exact absurd (openE_right ho9) (by decide)

end Go.Proofs
