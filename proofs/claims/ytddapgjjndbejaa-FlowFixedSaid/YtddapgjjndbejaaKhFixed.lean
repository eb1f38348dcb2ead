/- Texts joined for a claim: F18, L3, F20, F22. -/
import Derived.Test.YtddapgjjndbejaaKgFixed
import Derived.Test.YtddapgjjndbejaaKbFixed
/-
  Contracts of functions of the program: each by symbolic execution of its text.
-/
namespace Go.Proofs
open Go Go.Vk Go.Vk.Flow

/-- couchant/flow.Through$1. -/
theorem c_Through1 (N : Int) (va : Value) (arcs : List Arc) (i : Int) (b0 b1 : Nat) (hV : Valid N arcs) (w : World) (h0 : Blk w b0 [.int .i64 i] 3) (h1 : Blk w b1 [.int .i64 N, va] 24) (hA : Rd EA w va arcs) :
    Cl Try.prog 107 #[.pointer (some ⟨b0, 0, none⟩), .pointer (some ⟨b1, 0, none⟩)] w fun v w' => v = .bool (inb arcs i) ∧ Le w w' := by
  have hLx := hV.len
  refine fn_of_run (args := [_, _]) 9 Try.func107 rfl rfl rfl fun cs => ?_
  have S := Own.start (X := nob) w
  refine r_seq ?_
  refine r_region ?_
  refine l_x rfl (x_as rfl) ?_
  refine l_nil ?_
  refine r_seq ?_
  refine r_region ?_
  refine l_x rfl (x_load rfl (ld_blk (h0.keep S.le id) Try.isAgg3 rfl)) ?_
  refine l_x rfl (x_fieldAddr rfl Try.runUnderlying24 rfl Try.sizeOf22 (by decide)) ?_
  refine l_x rfl (x_load rfl (ld_blk (h1.keep S.le id) Try.isAgg22 rfl)) ?_
  refine l_x rfl (x_len (hA.le S.le) rfl Try.runUnderlying22) ?_
  refine l_x rfl (x_sub rfl rfl (by omega)) ?_
  refine l_call [] [] [_, _, _] rfl rfl Try.call64 rfl (c_in _ _ _ _) ?_
  rintro _ w1 ⟨rfl, hl3⟩
  have S2 := S.step hl3
  refine l_x rfl (x_as rfl) ?_
  refine l_nil ?_
  refine r_ret (rs := [.tmp 2]) [_] Try.func107 rfl ⟨rfl, trivial⟩ ?_
  exact ⟨congrArg Value.bool (by simp only [inb]), S2.le⟩

set_option maxHeartbeats 4000000 in
/-- couchant/flow.Through. -/
theorem c_Through (N : Int) (va : Value) (arcs : List Arc) (i k : Int) (w : World) (hA : Rd EA w va arcs) :
    Cl Try.prog 55 #[.agg #[.int .i64 N, va], .int .i64 i, .int .i64 k] w fun v w' => ∃ vx x is e, v = .tuple #[vx, .bool is, .int .i64 e] ∧ New w w' (vec EI vx x) ∧ Le w w' ∧ ThR N arcs i k x is e := by
  refine fn_of_run (args := [_, _, _]) 60 Try.func55 rfl rfl rfl fun cs => ?_
  have S := Own.start (X := nob) w
  refine r_seq ?_
  refine r_region ?_
  refine l_box S rfl rfl ?_
  intro b4 w1 S2 hl3
  refine l_box S2 rfl rfl ?_
  intro b8 w5 S6 hl7
  refine l_x rfl (x_as rfl) ?_
  refine l_x rfl (x_as rfl) ?_
  refine l_x rfl (x_as rfl) ?_
  refine l_nil ?_
  refine r_seq ?_
  refine r_seq ?_
  refine r_region ?_
  refine l_x rfl (x_load rfl (ld_blks (S6.blk 0 rfl) Try.isAgg24 Try.sizeOf24 rfl rfl)) ?_
  refine l_x rfl (x_func rfl rfl) ?_
  refine l_call [] [] [_, _] rfl rfl Try.call62 rfl (c_asked N va arcs (inb arcs i) 107 [_, _] _ (hA.le S6.le) Try.call107 (fun hv w1 h1 => c_Through1 N va arcs i _ _ (chk_zero.1 hv) w1 ((S6.blk 1 rfl).keep h1 id) ((S6.blk 0 rfl).keep h1 id) (hA.le (S6.le.trans h1)))) ?_
  rintro _ w9 ⟨rfl, hl11⟩
  have S10 := S6.step hl11
  refine l_x rfl (x_as rfl) ?_
  refine l_nil ?_
  refine r_seq ?_
  refine r_region ?_
  refine l_x rfl (x_mv rfl) ?_
  refine l_x rfl (x_neq rfl rfl) ?_
  refine l_nil ?_
  refine r_ifd rfl (fun hc17 => ?_) (fun hc17 => ?_)
  · skip
    change ¬ aski N arcs i = 0 at hc17
    refine r_seq ?_
    refine r_region ?_
    refine l_x rfl (x_mv rfl) ?_
    refine l_x rfl (x_as rfl) ?_
    refine l_x rfl (x_as rfl) ?_
    refine l_x rfl (x_as rfl) ?_
    refine l_nil ?_
    refine r_ret (rs := [.tmp 6, .tmp 7, .tmp 8]) [_, _, _] Try.func55 rfl ⟨rfl, rfl, rfl, trivial⟩ ?_
    exact ⟨_, [], _, _, rfl, New.nilvec .., S10.le, .bad hc17⟩
  · skip
    have h0 : aski N arcs i = 0 := Decidable.not_not.1 hc17
    obtain ⟨hV, hi0, hi1⟩ := aski_zero.1 h0
    have hLx := hV.len
    obtain ⟨a, ha0⟩ : ∃ a, arcs[i.toNat]? = some a := ⟨_, List.getElem?_eq_getElem (by omega)⟩
    refine r_skip ?_
    refine r_seq ?_
    refine r_seq ?_
    refine r_drawR 15 Try.mixed (by kernel_rfl) ?_
    refine w_x rfl (fun w1 h1 => x_mv rfl) ?_
    refine w_x rfl (fun w1 h1 => x_fieldAddr rfl Try.runUnderlying24 rfl Try.sizeOf22 (by decide)) ?_
    refine w_x rfl (fun w1 h1 => x_load rfl (ld_blk ((S10.step h1).blk 0 rfl) Try.isAgg22 rfl)) ?_
    refine w_x rfl (fun w1 h1 => x_load rfl (ld_blk ((S10.step h1).blk 1 rfl) Try.isAgg3 rfl)) ?_
    refine w_index EA rfl (hA.le S10.le) rfl rfl Try.runUnderlying22 Try.sizeOf39 (by omega) ha0 ?_
    intro b12 o13 hat14 row15
    refine w_x rfl (fun w1 h1 => x_fieldAddr rfl Try.runUnderlying39 rfl Try.sizeOf3 (by decide)) ?_
    refine w_x rfl (fun w1 h1 => x_load rfl (ld_cell Try.isAgg3 ((row15.le h1) 2 _ rfl))) ?_
    refine w_x rfl (fun w1 h1 => x_fieldAddr rfl Try.runUnderlying24 rfl Try.sizeOf22 (by decide)) ?_
    refine w_x rfl (fun w1 h1 => x_load rfl (ld_blk ((S10.step h1).blk 0 rfl) Try.isAgg22 rfl)) ?_
    refine w_x rfl (fun w1 h1 => x_load rfl (ld_blk ((S10.step h1).blk 1 rfl) Try.isAgg3 rfl)) ?_
    refine w_index EA rfl (hA.le S10.le) rfl rfl Try.runUnderlying22 Try.sizeOf39 (by omega) ha0 ?_
    intro b16 o17 hat18 row19
    refine w_x rfl (fun w1 h1 => x_fieldAddr rfl Try.runUnderlying39 rfl Try.sizeOf3 (by decide)) ?_
    refine w_x rfl (fun w1 h1 => x_load rfl (ld_cell Try.isAgg3 ((row19.le h1) 3 _ rfl))) ?_
    refine wd_call [] [] [_, _, _] rfl rfl Try.call64 rfl (fun w1 h1 => c_in _ _ _ _) ?_
    refine w_x rfl (fun w1 h1 => x_notd rfl) ?_
    refine w_nil ?_
    intro w20 hl21
    have S22 := S10.step hl21
    refine l_nil ?_
    refine r_ifd rfl (fun hc33 => ?_) (fun hc33 => ?_)
    · skip
      have hk : inb2 arcs i.toNat k = false := by rw [inb2, ha0]; exact decide_eq_false hc33
      refine r_seq ?_
      refine r_region ?_
      refine l_x rfl (x_as rfl) ?_
      refine l_x rfl (x_as rfl) ?_
      refine l_x rfl (x_as rfl) ?_
      refine l_nil ?_
      refine r_ret (rs := [.tmp 6, .tmp 7, .tmp 8]) [_, _, _] Try.func55 rfl ⟨rfl, rfl, rfl, trivial⟩ ?_
      exact ⟨_, [], _, _, rfl, New.nilvec .., S22.le, .out h0 hk⟩
    · skip
      have hk : inb2 arcs i.toNat k = true := by rw [inb2, ha0]; exact decide_eq_true (Decidable.not_not.1 hc33)
      refine r_skip ?_
      refine r_seq ?_
      refine r_drawE 7 nob Try.mixed (by kernel_rfl) ?_
      intro w23 hl24
      have S25 := S22.step hl24
      refine e_exact 0 _ (by kernel_rfl) rfl rfl (by kernel_rfl) rfl (ex_x rfl (fun w1 h1 => x_fieldAddr rfl Try.runUnderlying24 rfl Try.sizeOf3 (by decide))) ?_
      refine e_exact 1 _ (by kernel_rfl) rfl rfl (by kernel_rfl) rfl (ex_x rfl (fun w1 h1 => x_load rfl (ld_blk ((S25.step h1).blk 0 rfl) Try.isAgg3 rfl))) ?_
      refine e_exact 2 _ (by kernel_rfl) rfl rfl (by kernel_rfl) rfl (ex_x rfl (fun w1 h1 => x_fieldAddr rfl Try.runUnderlying24 rfl Try.sizeOf22 (by decide))) ?_
      refine e_exact 3 _ (by kernel_rfl) rfl rfl (by kernel_rfl) rfl (ex_x rfl (fun w1 h1 => x_load rfl (ld_blk ((S25.step h1).blk 0 rfl) Try.isAgg22 rfl))) ?_
      refine e_next [4, 6] (by kernel_rfl) (by kernel_rfl) ⟨⟨_, _, rfl, rfl, ?_⟩, ⟨_, _, rfl, rfl, ?_⟩, trivial⟩
      · skip
        refine s_callf [] [] [_] rfl rfl Try.call65 rfl ((c_copiedA _ _ (by omega) _ (hA.le S25.le)).mono ?_)
        rintro v3826 w26 ⟨hN3826, hl3826⟩
        have S27 := S25.add hl3826 hN3826
        refine ⟨.of_le hl3826, ?_⟩
        refine e_exact 5 _ (by kernel_rfl) rfl rfl (by kernel_rfl) rfl (ex_x rfl (fun w1 h1 => x_buildS (out := [_, _]) (ss := [1, 1]) Try.zeroValue24 rfl Try.runUnderlying24 ⟨Try.sizeOf3, Try.sizeOf22, trivial⟩ (fill_cons rfl rfl rfl (Nat.le_of_ble_eq_true rfl) (fill_cons rfl (Rd.cells (vec_rd (S27.at 2 rfl))) rfl (Nat.le_of_ble_eq_true rfl) fill_nil)))) ?_
        refine e_next [6] (by kernel_rfl) (by kernel_rfl) ⟨⟨_, _, rfl, rfl, ?_⟩, trivial⟩
        refine s_alloc S27 rfl Try.zeroValue24 rfl ?_
        intro b31 w28 S29 hl30
        refine ⟨.of_le hl30, ?_⟩
        refine e_done (by kernel_rfl) ?_
        refine l_stores (vs := [_, _]) S29 3 rfl rfl rfl rfl (ones_cons rfl (ones_cons (Rd.one (vec_rd (S29.at 2 rfl))) ones_nil)) Try.sizeOf24 (by first | exact Nat.le_refl _ | simp) (splice_all rfl) ?_
        intro w32 S33 hk34
        refine l_nil ?_
        refine r_seq ?_
        have hcur1 : (arcs.set i.toNat (⟨a.src, a.dst, k, a.hi, a.loBy, a.hiBy⟩ : Arc))[i.toNat]? = some ⟨a.src, a.dst, k, a.hi, a.loBy, a.hiBy⟩ := set_get ha0
        refine r_drawE 11 (Rsc.fp (vec EA v3826 arcs)) Try.mixed (by kernel_rfl) ?_
        intro w35 hl36
        have S37 := S33.step hl36
        refine e_exact 0 _ (by kernel_rfl) rfl rfl (by kernel_rfl) rfl (ex_x rfl (fun w1 h1 => x_fieldAddr rfl Try.runUnderlying24 rfl Try.sizeOf22 (by decide))) ?_
        refine e_exact 1 _ (by kernel_rfl) rfl rfl (by kernel_rfl) rfl (ex_x rfl (fun w1 h1 => x_load rfl (ld_blk ((S37.under 2 rfl h1).blk 3 rfl) Try.isAgg22 rfl))) ?_
        refine e_exact 2 _ (by kernel_rfl) rfl rfl (by kernel_rfl) rfl (ex_x rfl (fun w1 h1 => x_load rfl (ld_blk ((S37.under 2 rfl h1).blk 1 rfl) Try.isAgg3 rfl))) ?_
        refine e_exact 3 _ (by kernel_rfl) rfl rfl (by kernel_rfl) rfl (ex_x rfl (fun w1 h1 => x_fieldAddr rfl Try.runUnderlying24 rfl Try.sizeOf22 (by decide))) ?_
        refine e_exact 4 _ (by kernel_rfl) rfl rfl (by kernel_rfl) rfl (ex_x rfl (fun w1 h1 => x_load rfl (ld_blk ((S37.under 2 rfl h1).blk 3 rfl) Try.isAgg22 rfl))) ?_
        refine e_exact 5 _ (by kernel_rfl) rfl rfl (by kernel_rfl) rfl (ex_x rfl (fun w1 h1 => x_load rfl (ld_blk ((S37.under 2 rfl h1).blk 1 rfl) Try.isAgg3 rfl))) ?_
        refine e_exact 6 _ (by kernel_rfl) rfl rfl (by kernel_rfl) rfl (ex_x rfl (fun w1 h1 => x_mv rfl)) ?_
        refine e_exact 7 _ (by kernel_rfl) rfl rfl (by kernel_rfl) rfl (ex_x rfl (fun w1 h1 => x_mv rfl)) ?_
        refine e_index EA 8 (by kernel_rfl) rfl rfl (by kernel_rfl) rfl rfl (vec_rd (S37.at 2 rfl)) rfl rfl Try.runUnderlying22 Try.sizeOf39 (by omega) ha0 ?_
        intro b38 o39 hat40
        refine e_exact 9 _ (by kernel_rfl) rfl rfl (by kernel_rfl) rfl (ex_x rfl (fun w1 h1 => x_fieldAddr rfl Try.runUnderlying39 rfl Try.sizeOf3 (by decide))) ?_
        refine e_next [10] (by kernel_rfl) (by kernel_rfl) ⟨⟨_, _, rfl, rfl, ?_⟩, trivial⟩
        refine s_storevi (a' := ⟨a.src, a.dst, k, a.hi, a.loBy, a.hiBy⟩) (f := 2) S37 2 rfl rfl hat40 rfl rfl Try.sizeOf3 ha0 (by decide) rfl ?_
        intro w41 S42 hk43
        refine ⟨hk43, ?_⟩
        refine e_done (by kernel_rfl) ?_
        refine l_index EA rfl (vec_rd (S42.at 2 rfl)) rfl rfl Try.runUnderlying22 Try.sizeOf39 (by omega) hcur1 ?_
        intro b44 o45 hat46 row47
        refine l_x rfl (x_fieldAddr rfl Try.runUnderlying39 rfl Try.sizeOf3 (by decide)) ?_
        refine l_storevi (a' := ⟨a.src, a.dst, k, k, a.loBy, a.hiBy⟩) (f := 3) S42 2 rfl rfl hat46 rfl rfl Try.sizeOf3 hcur1 (by decide) rfl ?_
        intro w48 S49 hk50
        refine l_nil ?_
        refine r_seq ?_
        have ef : (arcs.set i.toNat (⟨a.src, a.dst, k, a.hi, a.loBy, a.hiBy⟩ : Arc)).set i.toNat (⟨a.src, a.dst, k, k, a.loBy, a.hiBy⟩ : Arc) = fix arcs i.toNat k := by rw [List.set_set, fix, ha0]
        have Sf := S49
        rw [ef] at Sf
        refine r_region ?_
        refine l_x rfl (x_load rfl (ld_blks (Sf.blk 3 rfl) Try.isAgg24 Try.sizeOf24 rfl rfl)) ?_
        refine l_call [] [] [_] rfl rfl Try.call43 rfl (c_Some _ _ _ _ (vec_rd (Sf.at 2 rfl))) ?_
        rintro _ w51 ⟨vx5451, x5451, e5451, rfl, hN5451, hl5451, hR5451⟩
        have S52 := Sf.add hl5451 hN5451
        refine l_x rfl (x_mv rfl) ?_
        refine l_x rfl (x_extract rfl rfl) ?_
        refine l_x rfl (x_extract rfl rfl) ?_
        refine l_x rfl (x_as rfl) ?_
        refine l_x rfl (x_as rfl) ?_
        refine l_nil ?_
        refine r_seq ?_
        refine r_region ?_
        refine l_x rfl (x_mv rfl) ?_
        refine l_x rfl (x_mv rfl) ?_
        refine l_x rfl (x_eql rfl rfl) ?_
        refine l_x rfl (x_as rfl) ?_
        refine l_x rfl (x_as rfl) ?_
        refine l_x rfl (x_as rfl) ?_
        refine l_nil ?_
        refine r_ret (rs := [.tmp 6, .tmp 7, .tmp 8]) [_, _, _] Try.func55 rfl ⟨rfl, rfl, rfl, trivial⟩ ?_
        exact ⟨_, _, _, _, rfl, S52.new 4 rfl, S52.le, ThR.of h0 hk hR5451⟩
      · skip
        refine s_alloc S25 rfl Try.zeroValue24 rfl ?_
        intro b56 w53 S54 hl55
        refine ⟨.of_le hl55, ?_⟩
        refine e_next [4] (by kernel_rfl) (by kernel_rfl) ⟨⟨_, _, rfl, rfl, ?_⟩, trivial⟩
        refine s_callf [] [] [_] rfl rfl Try.call65 rfl ((c_copiedA _ _ (by omega) _ (hA.le S54.le)).mono ?_)
        rintro v3857 w57 ⟨hN3857, hl3857⟩
        have S58 := S54.add hl3857 hN3857
        refine ⟨.of_le hl3857, ?_⟩
        refine e_exact 5 _ (by kernel_rfl) rfl rfl (by kernel_rfl) rfl (ex_x rfl (fun w1 h1 => x_buildS (out := [_, _]) (ss := [1, 1]) Try.zeroValue24 rfl Try.runUnderlying24 ⟨Try.sizeOf3, Try.sizeOf22, trivial⟩ (fill_cons rfl rfl rfl (Nat.le_of_ble_eq_true rfl) (fill_cons rfl (Rd.cells (vec_rd (S58.at 3 rfl))) rfl (Nat.le_of_ble_eq_true rfl) fill_nil)))) ?_
        refine e_done (by kernel_rfl) ?_
        refine l_stores (vs := [_, _]) S58 2 rfl rfl rfl rfl (ones_cons rfl (ones_cons (Rd.one (vec_rd (S58.at 3 rfl))) ones_nil)) Try.sizeOf24 (by first | exact Nat.le_refl _ | simp) (splice_all rfl) ?_
        intro w59 S60 hk61
        refine l_nil ?_
        refine r_seq ?_
        have hcur1 : (arcs.set i.toNat (⟨a.src, a.dst, k, a.hi, a.loBy, a.hiBy⟩ : Arc))[i.toNat]? = some ⟨a.src, a.dst, k, a.hi, a.loBy, a.hiBy⟩ := set_get ha0
        refine r_drawE 11 (Rsc.fp (vec EA v3857 arcs)) Try.mixed (by kernel_rfl) ?_
        intro w62 hl63
        have S64 := S60.step hl63
        refine e_exact 0 _ (by kernel_rfl) rfl rfl (by kernel_rfl) rfl (ex_x rfl (fun w1 h1 => x_fieldAddr rfl Try.runUnderlying24 rfl Try.sizeOf22 (by decide))) ?_
        refine e_exact 1 _ (by kernel_rfl) rfl rfl (by kernel_rfl) rfl (ex_x rfl (fun w1 h1 => x_load rfl (ld_blk ((S64.under 3 rfl h1).blk 2 rfl) Try.isAgg22 rfl))) ?_
        refine e_exact 2 _ (by kernel_rfl) rfl rfl (by kernel_rfl) rfl (ex_x rfl (fun w1 h1 => x_load rfl (ld_blk ((S64.under 3 rfl h1).blk 1 rfl) Try.isAgg3 rfl))) ?_
        refine e_exact 3 _ (by kernel_rfl) rfl rfl (by kernel_rfl) rfl (ex_x rfl (fun w1 h1 => x_fieldAddr rfl Try.runUnderlying24 rfl Try.sizeOf22 (by decide))) ?_
        refine e_exact 4 _ (by kernel_rfl) rfl rfl (by kernel_rfl) rfl (ex_x rfl (fun w1 h1 => x_load rfl (ld_blk ((S64.under 3 rfl h1).blk 2 rfl) Try.isAgg22 rfl))) ?_
        refine e_exact 5 _ (by kernel_rfl) rfl rfl (by kernel_rfl) rfl (ex_x rfl (fun w1 h1 => x_load rfl (ld_blk ((S64.under 3 rfl h1).blk 1 rfl) Try.isAgg3 rfl))) ?_
        refine e_exact 6 _ (by kernel_rfl) rfl rfl (by kernel_rfl) rfl (ex_x rfl (fun w1 h1 => x_mv rfl)) ?_
        refine e_exact 7 _ (by kernel_rfl) rfl rfl (by kernel_rfl) rfl (ex_x rfl (fun w1 h1 => x_mv rfl)) ?_
        refine e_index EA 8 (by kernel_rfl) rfl rfl (by kernel_rfl) rfl rfl (vec_rd (S64.at 3 rfl)) rfl rfl Try.runUnderlying22 Try.sizeOf39 (by omega) ha0 ?_
        intro b65 o66 hat67
        refine e_exact 9 _ (by kernel_rfl) rfl rfl (by kernel_rfl) rfl (ex_x rfl (fun w1 h1 => x_fieldAddr rfl Try.runUnderlying39 rfl Try.sizeOf3 (by decide))) ?_
        refine e_next [10] (by kernel_rfl) (by kernel_rfl) ⟨⟨_, _, rfl, rfl, ?_⟩, trivial⟩
        refine s_storevi (a' := ⟨a.src, a.dst, k, a.hi, a.loBy, a.hiBy⟩) (f := 2) S64 3 rfl rfl hat67 rfl rfl Try.sizeOf3 ha0 (by decide) rfl ?_
        intro w68 S69 hk70
        refine ⟨hk70, ?_⟩
        refine e_done (by kernel_rfl) ?_
        refine l_index EA rfl (vec_rd (S69.at 3 rfl)) rfl rfl Try.runUnderlying22 Try.sizeOf39 (by omega) hcur1 ?_
        intro b71 o72 hat73 row74
        refine l_x rfl (x_fieldAddr rfl Try.runUnderlying39 rfl Try.sizeOf3 (by decide)) ?_
        refine l_storevi (a' := ⟨a.src, a.dst, k, k, a.loBy, a.hiBy⟩) (f := 3) S69 3 rfl rfl hat73 rfl rfl Try.sizeOf3 hcur1 (by decide) rfl ?_
        intro w75 S76 hk77
        refine l_nil ?_
        refine r_seq ?_
        have ef : (arcs.set i.toNat (⟨a.src, a.dst, k, a.hi, a.loBy, a.hiBy⟩ : Arc)).set i.toNat (⟨a.src, a.dst, k, k, a.loBy, a.hiBy⟩ : Arc) = fix arcs i.toNat k := by rw [List.set_set, fix, ha0]
        have Sf := S76
        rw [ef] at Sf
        refine r_region ?_
        refine l_x rfl (x_load rfl (ld_blks (Sf.blk 2 rfl) Try.isAgg24 Try.sizeOf24 rfl rfl)) ?_
        refine l_call [] [] [_] rfl rfl Try.call43 rfl (c_Some _ _ _ _ (vec_rd (Sf.at 3 rfl))) ?_
        rintro _ w78 ⟨vx5478, x5478, e5478, rfl, hN5478, hl5478, hR5478⟩
        have S79 := Sf.add hl5478 hN5478
        refine l_x rfl (x_mv rfl) ?_
        refine l_x rfl (x_extract rfl rfl) ?_
        refine l_x rfl (x_extract rfl rfl) ?_
        refine l_x rfl (x_as rfl) ?_
        refine l_x rfl (x_as rfl) ?_
        refine l_nil ?_
        refine r_seq ?_
        refine r_region ?_
        refine l_x rfl (x_mv rfl) ?_
        refine l_x rfl (x_mv rfl) ?_
        refine l_x rfl (x_eql rfl rfl) ?_
        refine l_x rfl (x_as rfl) ?_
        refine l_x rfl (x_as rfl) ?_
        refine l_x rfl (x_as rfl) ?_
        refine l_nil ?_
        refine r_ret (rs := [.tmp 6, .tmp 7, .tmp 8]) [_, _, _] Try.func55 rfl ⟨rfl, rfl, rfl, trivial⟩ ?_
        exact ⟨_, _, _, _, rfl, S79.new 4 rfl, S79.le, ThR.of h0 hk hR5478⟩

theorem c_Through2 (N : Int) (va : Value) (arcs : List Arc) (i k : Int) (w : World) (hA : Rd EA w va arcs) :
    Cl Try.prog 55 #[.agg #[.int .i64 N, va], .int .i64 i, .int .i64 k] w fun v w' => (∃ vx x e, v = .tuple #[vx, .bool true, .int .i64 e] ∧ New w w' (vec EI vx x) ∧ Le w w' ∧ ThR N arcs i k x true e) ∨ ∃ vx x e, v = .tuple #[vx, .bool false, .int .i64 e] ∧ New w w' (vec EI vx x) ∧ Le w w' ∧ ThR N arcs i k x false e :=
  (c_Through N va arcs i k w hA).mono fun _ _ ⟨vx, x, is, e, h1, h2, h3, h4⟩ => by
    cases is
    · exact .inr ⟨vx, x, e, h1, h2, h3, h4⟩
    · exact .inl ⟨vx, x, e, h1, h2, h3, h4⟩

/-- couchant/flow.Without$1. -/
theorem c_Without1 (r : Int) (b0 : Nat) (w : World) (h0 : Blk w b0 [.int .i64 r] 3) :
    Cl Try.prog 102 #[.pointer (some ⟨b0, 0, none⟩)] w fun v w' => v = .bool (decide (1 ≤ r ∧ r ≤ 1000000)) ∧ Le w w' := by
  refine fn_of_run (args := [_]) 4 Try.func102 rfl rfl rfl fun cs => ?_
  have S := Own.start (X := nob) w
  refine r_seq ?_
  refine r_region ?_
  refine l_x rfl (x_as rfl) ?_
  refine l_nil ?_
  refine r_seq ?_
  refine r_region ?_
  refine l_x rfl (x_load rfl (ld_blk (h0.keep S.le id) Try.isAgg3 rfl)) ?_
  refine l_call [] [] [_, _, _] rfl rfl Try.call64 rfl (c_in _ _ _ _) ?_
  rintro _ w1 ⟨rfl, hl3⟩
  have S2 := S.step hl3
  refine l_x rfl (x_as rfl) ?_
  refine l_nil ?_
  refine r_ret (rs := [.tmp 1]) [_] Try.func102 rfl ⟨rfl, trivial⟩ ?_
  exact ⟨congrArg Value.bool rfl, S2.le⟩

set_option maxHeartbeats 4000000 in
/-- couchant/flow.Without. -/
theorem c_Without (N : Int) (va : Value) (arcs : List Arc) (r : Int) (w : World) (hA : Rd EA w va arcs) :
    Cl Try.prog 45 #[.agg #[.int .i64 N, va], .int .i64 r] w fun v w' => ∃ vh, v = .tuple #[.agg #[.int .i64 (if wotE N arcs r = 0 then N else 0), vh], .int .i64 (wotE N arcs r)] ∧ New w w' (vec EA vh (if wotE N arcs r = 0 then wot arcs r else [])) ∧ Le w w' := by
  refine fn_of_run (args := [_, _]) 59 Try.func45 rfl rfl rfl fun cs => ?_
  have S := Own.start (X := nob) w
  refine r_seq ?_
  refine r_region ?_
  refine l_box S rfl rfl ?_
  intro b4 w1 S2 hl3
  refine l_box S2 rfl rfl ?_
  intro b8 w5 S6 hl7
  refine l_alloc S6 rfl Try.zeroValue24 rfl ?_
  intro b12 w9 S10 hl11
  refine l_x rfl (x_as rfl) ?_
  refine l_nil ?_
  refine r_seq ?_
  refine r_seq ?_
  refine r_region ?_
  refine l_x rfl (x_load rfl (ld_blks (S10.blk 0 rfl) Try.isAgg24 Try.sizeOf24 rfl rfl)) ?_
  refine l_x rfl (x_func rfl rfl) ?_
  refine l_call [] [] [_, _] rfl rfl Try.call62 rfl (c_asked N va arcs (decide (1 ≤ r ∧ r ≤ 1000000)) 102 [_] _ (hA.le S10.le) Try.call102 (fun hv w1 h1 => c_Without1 r _ w1 ((S10.blk 1 rfl).keep h1 id))) ?_
  rintro _ w13 ⟨rfl, hl15⟩
  have S14 := S10.step hl15
  refine l_x rfl (x_as rfl) ?_
  refine l_nil ?_
  refine r_seq ?_
  refine r_region ?_
  refine l_x rfl (x_mv rfl) ?_
  refine l_x rfl (x_neq rfl rfl) ?_
  refine l_nil ?_
  refine r_ifd rfl (fun hc14 => ?_) (fun hc14 => ?_)
  · skip
    change ¬ wotE N arcs r = 0 at hc14
    refine r_seq ?_
    refine r_region ?_
    refine l_x rfl (x_buildS (out := [_, _]) (ss := [1, 1]) Try.zeroValue24 rfl Try.runUnderlying24 ⟨Try.sizeOf3, Try.sizeOf22, trivial⟩ fill_nil) ?_
    refine l_x rfl (x_mv rfl) ?_
    refine l_stores (vs := [_, _]) S14 2 rfl rfl rfl rfl (ones_cons rfl (ones_cons rfl ones_nil)) Try.sizeOf24 (by first | exact Nat.le_refl _ | simp) (splice_all rfl) ?_
    intro w16 S17 hk18
    refine l_x rfl (x_as rfl) ?_
    refine l_nil ?_
    refine r_ret (rs := [.cell 4 24, .tmp 5]) [_, _] Try.func45 rfl ⟨⟨_, rfl, (ld_blks (S17.blk 2 rfl) Try.isAgg24 Try.sizeOf24 rfl rfl)⟩, rfl, trivial⟩ ?_
    exact ⟨.slice none 0 0, by rw [if_neg hc14]; rfl, by rw [if_neg hc14]; exact New.nilvec .., S17.le⟩
  · skip
    have h0 : wotE N arcs r = 0 := Decidable.not_not.1 hc14
    obtain ⟨hV, hr0⟩ := wotE_zero.1 h0
    have hLx := hV.len
    refine r_skip ?_
    refine r_seq ?_
    refine r_drawE 7 nob Try.mixed (by kernel_rfl) ?_
    intro w19 hl20
    have S21 := S14.step hl20
    refine e_exact 0 _ (by kernel_rfl) rfl rfl (by kernel_rfl) rfl (ex_x rfl (fun w1 h1 => x_fieldAddr rfl Try.runUnderlying24 rfl Try.sizeOf3 (by decide))) ?_
    refine e_exact 1 _ (by kernel_rfl) rfl rfl (by kernel_rfl) rfl (ex_x rfl (fun w1 h1 => x_load rfl (ld_blk ((S21.step h1).blk 0 rfl) Try.isAgg3 rfl))) ?_
    refine e_exact 2 _ (by kernel_rfl) rfl rfl (by kernel_rfl) rfl (ex_x rfl (fun w1 h1 => x_fieldAddr rfl Try.runUnderlying24 rfl Try.sizeOf22 (by decide))) ?_
    refine e_exact 3 _ (by kernel_rfl) rfl rfl (by kernel_rfl) rfl (ex_x rfl (fun w1 h1 => x_load rfl (ld_blk ((S21.step h1).blk 0 rfl) Try.isAgg22 rfl))) ?_
    refine e_next [4, 6] (by kernel_rfl) (by kernel_rfl) ⟨⟨_, _, rfl, rfl, ?_⟩, ⟨_, _, rfl, rfl, ?_⟩, trivial⟩
    · skip
      refine s_callf [] [] [_] rfl rfl Try.call65 rfl ((c_copiedA _ _ (by omega) _ (hA.le S21.le)).mono ?_)
      rintro v2122 w22 ⟨hN2122, hl2122⟩
      have S23 := S21.add hl2122 hN2122
      refine ⟨.of_le hl2122, ?_⟩
      refine e_exact 5 _ (by kernel_rfl) rfl rfl (by kernel_rfl) rfl (ex_x rfl (fun w1 h1 => x_buildS (out := [_, _]) (ss := [1, 1]) Try.zeroValue24 rfl Try.runUnderlying24 ⟨Try.sizeOf3, Try.sizeOf22, trivial⟩ (fill_cons rfl rfl rfl (Nat.le_of_ble_eq_true rfl) (fill_cons rfl (Rd.cells (vec_rd (S23.at 3 rfl))) rfl (Nat.le_of_ble_eq_true rfl) fill_nil)))) ?_
      refine e_next [6] (by kernel_rfl) (by kernel_rfl) ⟨⟨_, _, rfl, rfl, ?_⟩, trivial⟩
      refine s_alloc S23 rfl Try.zeroValue24 rfl ?_
      intro b27 w24 S25 hl26
      refine ⟨.of_le hl26, ?_⟩
      refine e_done (by kernel_rfl) ?_
      refine l_stores (vs := [_, _]) S25 4 rfl rfl rfl rfl (ones_cons rfl (ones_cons (Rd.one (vec_rd (S25.at 3 rfl))) ones_nil)) Try.sizeOf24 (by first | exact Nat.le_refl _ | simp) (splice_all rfl) ?_
      intro w28 S29 hk30
      refine l_nil ?_
      refine r_seq ?_
      refine r_seq ?_
      refine r_region ?_
      refine l_x rfl (x_fieldAddr rfl Try.runUnderlying24 rfl Try.sizeOf22 (by decide)) ?_
      refine l_x rfl (x_load rfl (ld_blk (S29.blk 4 rfl) Try.isAgg22 rfl)) ?_
      refine l_x rfl (x_len (vec_rd (S29.at 3 rfl)) rfl Try.runUnderlying22) ?_
      refine l_x rfl (x_mv rfl) ?_
      refine l_nil ?_
      refine r_block ?_
      refine r_loop (G := Nat) (fun i => arcs.length - i) (fun i => [(2, .pointer (some ⟨b4, 0, none⟩)), (3, .pointer (some ⟨b8, 0, none⟩)), (4, .pointer (some ⟨b12, 0, none⟩)), (7, .pointer (some ⟨b27, 0, none⟩)), (26, .int .i64 i), (25, .int .i64 arcs.length)]) (fun i w' => (i ≤ arcs.length) ∧ Own nob w w' [blk b4 [.int .i64 N, va] 24, blk b8 [.int .i64 r] 3, blk b12 [.int .i64 0, .slice none 0 0] 24, vec EA v2122 (prm (wot1 r) arcs i), blk b27 [.int .i64 N, v2122] 24]) 0 ⟨rfl, rfl, rfl, rfl, rfl, rfl, trivial⟩ ⟨Nat.zero_le _, (by rw [prm_zero]; exact S29)⟩ ?_
      rintro i ρ w1 ⟨hi, S1⟩ IH
      refine r_seq ?_
      refine r_region ?_
      refine l_x rfl (x_lss rfl rfl) ?_
      refine l_nil ?_
      refine r_seq ?_
      refine r_ifd rfl (fun hc27 => ?_) (fun hc27 => ?_)
      · skip
        obtain ⟨a, ha⟩ : ∃ a, arcs[i]? = some a := ⟨_, List.getElem?_eq_getElem (by omega)⟩
        refine r_skip ?_
        refine r_seq ?_
        refine r_block ?_
        refine r_seq ?_
        refine r_region ?_
        refine l_x rfl (x_mv rfl) ?_
        refine l_x rfl (x_as rfl) ?_
        refine l_nil ?_
        refine r_seq ?_
        refine r_region ?_
        refine l_x rfl (x_fieldAddr rfl Try.runUnderlying24 rfl Try.sizeOf22 (by decide)) ?_
        refine l_x rfl (x_load rfl (ld_blk (S1.blk 4 rfl) Try.isAgg22 rfl)) ?_
        refine l_x rfl (x_mv rfl) ?_
        refine l_index EA rfl (vec_rd (S1.at 3 rfl)) rfl rfl Try.runUnderlying22 Try.sizeOf39 (by omega) (prm_get ha) ?_
        intro b31 o32 hat33 row34
        refine l_x rfl (x_as rfl) ?_
        refine l_nil ?_
        refine r_seq ?_
        refine r_seq ?_
        have hcur := prm_get (f := wot1 r) ha
        refine r_drawR 6 Try.mixed (by kernel_rfl) ?_
        refine w_x rfl (fun w1 h1 => x_mv rfl) ?_
        refine w_x rfl (fun w1 h1 => x_nilCheck rfl) ?_
        refine w_x rfl (fun w1 h1 => x_fieldAddr rfl Try.runUnderlying39 rfl Try.sizeOf3 (by decide)) ?_
        refine w_x rfl (fun w1 h1 => x_load rfl (ld_cell Try.isAgg3 ((rd_row (vec_rd ((S1.step h1).at 3 rfl)) hat33 hcur) 4 _ rfl))) ?_
        refine w_x rfl (fun w1 h1 => x_load rfl (ld_blk ((S1.step h1).blk 1 rfl) Try.isAgg3 rfl)) ?_
        refine w_x rfl (fun w1 h1 => x_eql rfl rfl) ?_
        refine w_nil ?_
        intro w35 hl36
        have S37 := S1.step hl36
        refine l_nil ?_
        refine r_ifd rfl (fun hc38 => ?_) (fun hc38 => ?_)
        · skip
          refine r_region ?_
          refine l_x rfl (x_mv rfl) ?_
          refine l_x rfl (x_mv rfl) ?_
          refine l_x rfl (x_nilCheck rfl) ?_
          refine l_x rfl (x_fieldAddr rfl Try.runUnderlying39 rfl Try.sizeOf3 (by decide)) ?_
          refine l_storevi (a' := ⟨a.src, a.dst, 0, a.hi, a.loBy, a.hiBy⟩) (f := 2) S37 3 rfl rfl hat33 rfl rfl Try.sizeOf3 (prm_get ha) (by decide) rfl ?_
          intro w38 S39 hk40
          refine l_x rfl (x_nilCheck rfl) ?_
          refine l_x rfl (x_fieldAddr rfl Try.runUnderlying39 rfl Try.sizeOf3 (by decide)) ?_
          refine l_storevi (a' := ⟨a.src, a.dst, 0, a.hi, 0, a.hiBy⟩) (f := 4) S39 3 rfl rfl hat33 rfl rfl Try.sizeOf3 (set_get (prm_get ha)) (by decide) rfl ?_
          intro w41 S42 hk43
          refine l_nil ?_
          refine r_seq ?_
          have hcur : (((prm (wot1 r) arcs i).set ((i : Nat) : Int).toNat ⟨a.src, a.dst, 0, a.hi, a.loBy, a.hiBy⟩).set ((i : Nat) : Int).toNat ⟨a.src, a.dst, 0, a.hi, 0, a.hiBy⟩)[((i : Nat) : Int).toNat]? = some ⟨a.src, a.dst, 0, a.hi, 0, a.hiBy⟩ := set_get (set_get (prm_get ha))
          refine r_drawR 6 Try.mixed (by kernel_rfl) ?_
          refine w_x rfl (fun w1 h1 => x_mv rfl) ?_
          refine w_x rfl (fun w1 h1 => x_nilCheck rfl) ?_
          refine w_x rfl (fun w1 h1 => x_fieldAddr rfl Try.runUnderlying39 rfl Try.sizeOf3 (by decide)) ?_
          refine w_x rfl (fun w1 h1 => x_load rfl (ld_cell Try.isAgg3 ((rd_row (vec_rd ((S42.step h1).at 3 rfl)) hat33 hcur) 5 _ rfl))) ?_
          refine w_x rfl (fun w1 h1 => x_load rfl (ld_blk ((S42.step h1).blk 1 rfl) Try.isAgg3 rfl)) ?_
          refine w_x rfl (fun w1 h1 => x_eql rfl rfl) ?_
          refine w_nil ?_
          intro w44 hl45
          have S46 := S42.step hl45
          refine l_nil ?_
          refine r_ifd rfl (fun hc50 => ?_) (fun hc50 => ?_)
          · skip
            
            refine r_region ?_
            refine l_x rfl (x_mv rfl) ?_
            refine l_x rfl (x_mv rfl) ?_
            refine l_x rfl (x_nilCheck rfl) ?_
            refine l_x rfl (x_fieldAddr rfl Try.runUnderlying39 rfl Try.sizeOf3 (by decide)) ?_
            refine l_storevi (a' := ⟨a.src, a.dst, 0, 1000000, 0, a.hiBy⟩) (f := 3) S46 3 rfl rfl hat33 rfl rfl Try.sizeOf3 hcur (by decide) rfl ?_
            intro w47 S48 hk49
            refine l_x rfl (x_nilCheck rfl) ?_
            refine l_x rfl (x_fieldAddr rfl Try.runUnderlying39 rfl Try.sizeOf3 (by decide)) ?_
            refine l_storevi (a' := ⟨a.src, a.dst, 0, 1000000, 0, 0⟩) (f := 5) S48 3 rfl rfl hat33 rfl rfl Try.sizeOf3 (set_get hcur) (by decide) rfl ?_
            intro w50 S51 hk52
            refine l_nil ?_
            refine r_inBlock ?_
            refine r_region ?_
            refine l_x rfl (x_add rfl rfl (by omega)) ?_
            refine l_x rfl (x_mv rfl) ?_
            refine l_nil ?_
            exact IH (i + 1) _ _ (by omega) ⟨rfl, rfl, rfl, rfl, rfl, rfl, trivial⟩ ⟨by omega, (by rw [← prm_step ha, wot11 hc38 hc50]; have hS := S51.take 6; rw [List.set_set (α := Arc), List.set_set (α := Arc), List.set_set (α := Arc)] at hS; exact hS)⟩
          · skip
            refine r_skip ?_
            refine r_inBlock ?_
            refine r_region ?_
            refine l_x rfl (x_add rfl rfl (by omega)) ?_
            refine l_x rfl (x_mv rfl) ?_
            refine l_nil ?_
            exact IH (i + 1) _ _ (by omega) ⟨rfl, rfl, rfl, rfl, rfl, rfl, trivial⟩ ⟨by omega, (by rw [← prm_step ha, wot10 hc38 hc50]; have hS := S46.take 6; rw [List.set_set (α := Arc)] at hS; exact hS)⟩
        · skip
          refine r_skip ?_
          refine r_seq ?_
          
          refine r_drawR 6 Try.mixed (by kernel_rfl) ?_
          refine w_x rfl (fun w1 h1 => x_mv rfl) ?_
          refine w_x rfl (fun w1 h1 => x_nilCheck rfl) ?_
          refine w_x rfl (fun w1 h1 => x_fieldAddr rfl Try.runUnderlying39 rfl Try.sizeOf3 (by decide)) ?_
          refine w_x rfl (fun w1 h1 => x_load rfl (ld_cell Try.isAgg3 ((rd_row (vec_rd ((S37.step h1).at 3 rfl)) hat33 hcur) 5 _ rfl))) ?_
          refine w_x rfl (fun w1 h1 => x_load rfl (ld_blk ((S37.step h1).blk 1 rfl) Try.isAgg3 rfl)) ?_
          refine w_x rfl (fun w1 h1 => x_eql rfl rfl) ?_
          refine w_nil ?_
          intro w53 hl54
          have S55 := S37.step hl54
          refine l_nil ?_
          refine r_ifd rfl (fun hc50 => ?_) (fun hc50 => ?_)
          · skip
            
            refine r_region ?_
            refine l_x rfl (x_mv rfl) ?_
            refine l_x rfl (x_mv rfl) ?_
            refine l_x rfl (x_nilCheck rfl) ?_
            refine l_x rfl (x_fieldAddr rfl Try.runUnderlying39 rfl Try.sizeOf3 (by decide)) ?_
            refine l_storevi (a' := ⟨a.src, a.dst, a.lo, 1000000, a.loBy, a.hiBy⟩) (f := 3) S55 3 rfl rfl hat33 rfl rfl Try.sizeOf3 hcur (by decide) rfl ?_
            intro w56 S57 hk58
            refine l_x rfl (x_nilCheck rfl) ?_
            refine l_x rfl (x_fieldAddr rfl Try.runUnderlying39 rfl Try.sizeOf3 (by decide)) ?_
            refine l_storevi (a' := ⟨a.src, a.dst, a.lo, 1000000, a.loBy, 0⟩) (f := 5) S57 3 rfl rfl hat33 rfl rfl Try.sizeOf3 (set_get hcur) (by decide) rfl ?_
            intro w59 S60 hk61
            refine l_nil ?_
            refine r_inBlock ?_
            refine r_region ?_
            refine l_x rfl (x_add rfl rfl (by omega)) ?_
            refine l_x rfl (x_mv rfl) ?_
            refine l_nil ?_
            exact IH (i + 1) _ _ (by omega) ⟨rfl, rfl, rfl, rfl, rfl, rfl, trivial⟩ ⟨by omega, (by rw [← prm_step ha, wot01 hc38 hc50]; have hS := S60.take 6; rw [List.set_set (α := Arc)] at hS; exact hS)⟩
          · skip
            refine r_skip ?_
            refine r_inBlock ?_
            refine r_region ?_
            refine l_x rfl (x_add rfl rfl (by omega)) ?_
            refine l_x rfl (x_mv rfl) ?_
            refine l_nil ?_
            exact IH (i + 1) _ _ (by omega) ⟨rfl, rfl, rfl, rfl, rfl, rfl, trivial⟩ ⟨by omega, (by rw [← prm_step ha, wot00 hc38 hc50, set_same (prm_get ha)]; exact S55.take 6)⟩
      · skip
        have hie : i = arcs.length := by omega
        subst hie
        refine r_exit rfl ?_
        refine r_seq ?_
        refine r_region ?_
        refine l_x rfl (x_load rfl (ld_blks (S1.blk 4 rfl) Try.isAgg24 Try.sizeOf24 rfl rfl)) ?_
        refine l_stores (vs := [_, _]) S1 2 rfl rfl rfl rfl (ones_cons rfl (ones_cons (Rd.one (vec_rd (S1.at 3 rfl))) ones_nil)) Try.sizeOf24 (by first | exact Nat.le_refl _ | simp) (splice_all rfl) ?_
        intro w62 S63 hk64
        refine l_x rfl (x_as rfl) ?_
        refine l_nil ?_
        refine r_ret (rs := [.cell 4 24, .tmp 5]) [_, _] Try.func45 rfl ⟨⟨_, rfl, (ld_blks (S63.blk 2 rfl) Try.isAgg24 Try.sizeOf24 rfl rfl)⟩, rfl, trivial⟩ ?_
        exact ⟨v2122, by rw [if_pos h0, h0]; rfl, by rw [if_pos h0]; have hS := S63; rw [prm_full] at hS; exact hS.new 3 rfl, S63.le⟩
    · skip
      refine s_alloc S21 rfl Try.zeroValue24 rfl ?_
      intro b68 w65 S66 hl67
      refine ⟨.of_le hl67, ?_⟩
      refine e_next [4] (by kernel_rfl) (by kernel_rfl) ⟨⟨_, _, rfl, rfl, ?_⟩, trivial⟩
      refine s_callf [] [] [_] rfl rfl Try.call65 rfl ((c_copiedA _ _ (by omega) _ (hA.le S66.le)).mono ?_)
      rintro v2169 w69 ⟨hN2169, hl2169⟩
      have S70 := S66.add hl2169 hN2169
      refine ⟨.of_le hl2169, ?_⟩
      refine e_exact 5 _ (by kernel_rfl) rfl rfl (by kernel_rfl) rfl (ex_x rfl (fun w1 h1 => x_buildS (out := [_, _]) (ss := [1, 1]) Try.zeroValue24 rfl Try.runUnderlying24 ⟨Try.sizeOf3, Try.sizeOf22, trivial⟩ (fill_cons rfl rfl rfl (Nat.le_of_ble_eq_true rfl) (fill_cons rfl (Rd.cells (vec_rd (S70.at 4 rfl))) rfl (Nat.le_of_ble_eq_true rfl) fill_nil)))) ?_
      refine e_done (by kernel_rfl) ?_
      refine l_stores (vs := [_, _]) S70 3 rfl rfl rfl rfl (ones_cons rfl (ones_cons (Rd.one (vec_rd (S70.at 4 rfl))) ones_nil)) Try.sizeOf24 (by first | exact Nat.le_refl _ | simp) (splice_all rfl) ?_
      intro w71 S72 hk73
      refine l_nil ?_
      refine r_seq ?_
      refine r_seq ?_
      refine r_region ?_
      refine l_x rfl (x_fieldAddr rfl Try.runUnderlying24 rfl Try.sizeOf22 (by decide)) ?_
      refine l_x rfl (x_load rfl (ld_blk (S72.blk 3 rfl) Try.isAgg22 rfl)) ?_
      refine l_x rfl (x_len (vec_rd (S72.at 4 rfl)) rfl Try.runUnderlying22) ?_
      refine l_x rfl (x_mv rfl) ?_
      refine l_nil ?_
      refine r_block ?_
      refine r_loop (G := Nat) (fun i => arcs.length - i) (fun i => [(2, .pointer (some ⟨b4, 0, none⟩)), (3, .pointer (some ⟨b8, 0, none⟩)), (4, .pointer (some ⟨b12, 0, none⟩)), (7, .pointer (some ⟨b68, 0, none⟩)), (26, .int .i64 i), (25, .int .i64 arcs.length)]) (fun i w' => (i ≤ arcs.length) ∧ Own nob w w' [blk b4 [.int .i64 N, va] 24, blk b8 [.int .i64 r] 3, blk b12 [.int .i64 0, .slice none 0 0] 24, blk b68 [.int .i64 N, v2169] 24, vec EA v2169 (prm (wot1 r) arcs i)]) 0 ⟨rfl, rfl, rfl, rfl, rfl, rfl, trivial⟩ ⟨Nat.zero_le _, (by rw [prm_zero]; exact S72)⟩ ?_
      rintro i ρ w1 ⟨hi, S1⟩ IH
      refine r_seq ?_
      refine r_region ?_
      refine l_x rfl (x_lss rfl rfl) ?_
      refine l_nil ?_
      refine r_seq ?_
      refine r_ifd rfl (fun hc27 => ?_) (fun hc27 => ?_)
      · skip
        obtain ⟨a, ha⟩ : ∃ a, arcs[i]? = some a := ⟨_, List.getElem?_eq_getElem (by omega)⟩
        refine r_skip ?_
        refine r_seq ?_
        refine r_block ?_
        refine r_seq ?_
        refine r_region ?_
        refine l_x rfl (x_mv rfl) ?_
        refine l_x rfl (x_as rfl) ?_
        refine l_nil ?_
        refine r_seq ?_
        refine r_region ?_
        refine l_x rfl (x_fieldAddr rfl Try.runUnderlying24 rfl Try.sizeOf22 (by decide)) ?_
        refine l_x rfl (x_load rfl (ld_blk (S1.blk 3 rfl) Try.isAgg22 rfl)) ?_
        refine l_x rfl (x_mv rfl) ?_
        refine l_index EA rfl (vec_rd (S1.at 4 rfl)) rfl rfl Try.runUnderlying22 Try.sizeOf39 (by omega) (prm_get ha) ?_
        intro b74 o75 hat76 row77
        refine l_x rfl (x_as rfl) ?_
        refine l_nil ?_
        refine r_seq ?_
        refine r_seq ?_
        have hcur := prm_get (f := wot1 r) ha
        refine r_drawR 6 Try.mixed (by kernel_rfl) ?_
        refine w_x rfl (fun w1 h1 => x_mv rfl) ?_
        refine w_x rfl (fun w1 h1 => x_nilCheck rfl) ?_
        refine w_x rfl (fun w1 h1 => x_fieldAddr rfl Try.runUnderlying39 rfl Try.sizeOf3 (by decide)) ?_
        refine w_x rfl (fun w1 h1 => x_load rfl (ld_cell Try.isAgg3 ((rd_row (vec_rd ((S1.step h1).at 4 rfl)) hat76 hcur) 4 _ rfl))) ?_
        refine w_x rfl (fun w1 h1 => x_load rfl (ld_blk ((S1.step h1).blk 1 rfl) Try.isAgg3 rfl)) ?_
        refine w_x rfl (fun w1 h1 => x_eql rfl rfl) ?_
        refine w_nil ?_
        intro w78 hl79
        have S80 := S1.step hl79
        refine l_nil ?_
        refine r_ifd rfl (fun hc38 => ?_) (fun hc38 => ?_)
        · skip
          refine r_region ?_
          refine l_x rfl (x_mv rfl) ?_
          refine l_x rfl (x_mv rfl) ?_
          refine l_x rfl (x_nilCheck rfl) ?_
          refine l_x rfl (x_fieldAddr rfl Try.runUnderlying39 rfl Try.sizeOf3 (by decide)) ?_
          refine l_storevi (a' := ⟨a.src, a.dst, 0, a.hi, a.loBy, a.hiBy⟩) (f := 2) S80 4 rfl rfl hat76 rfl rfl Try.sizeOf3 (prm_get ha) (by decide) rfl ?_
          intro w81 S82 hk83
          refine l_x rfl (x_nilCheck rfl) ?_
          refine l_x rfl (x_fieldAddr rfl Try.runUnderlying39 rfl Try.sizeOf3 (by decide)) ?_
          refine l_storevi (a' := ⟨a.src, a.dst, 0, a.hi, 0, a.hiBy⟩) (f := 4) S82 4 rfl rfl hat76 rfl rfl Try.sizeOf3 (set_get (prm_get ha)) (by decide) rfl ?_
          intro w84 S85 hk86
          refine l_nil ?_
          refine r_seq ?_
          have hcur : (((prm (wot1 r) arcs i).set ((i : Nat) : Int).toNat ⟨a.src, a.dst, 0, a.hi, a.loBy, a.hiBy⟩).set ((i : Nat) : Int).toNat ⟨a.src, a.dst, 0, a.hi, 0, a.hiBy⟩)[((i : Nat) : Int).toNat]? = some ⟨a.src, a.dst, 0, a.hi, 0, a.hiBy⟩ := set_get (set_get (prm_get ha))
          refine r_drawR 6 Try.mixed (by kernel_rfl) ?_
          refine w_x rfl (fun w1 h1 => x_mv rfl) ?_
          refine w_x rfl (fun w1 h1 => x_nilCheck rfl) ?_
          refine w_x rfl (fun w1 h1 => x_fieldAddr rfl Try.runUnderlying39 rfl Try.sizeOf3 (by decide)) ?_
          refine w_x rfl (fun w1 h1 => x_load rfl (ld_cell Try.isAgg3 ((rd_row (vec_rd ((S85.step h1).at 4 rfl)) hat76 hcur) 5 _ rfl))) ?_
          refine w_x rfl (fun w1 h1 => x_load rfl (ld_blk ((S85.step h1).blk 1 rfl) Try.isAgg3 rfl)) ?_
          refine w_x rfl (fun w1 h1 => x_eql rfl rfl) ?_
          refine w_nil ?_
          intro w87 hl88
          have S89 := S85.step hl88
          refine l_nil ?_
          refine r_ifd rfl (fun hc50 => ?_) (fun hc50 => ?_)
          · skip
            
            refine r_region ?_
            refine l_x rfl (x_mv rfl) ?_
            refine l_x rfl (x_mv rfl) ?_
            refine l_x rfl (x_nilCheck rfl) ?_
            refine l_x rfl (x_fieldAddr rfl Try.runUnderlying39 rfl Try.sizeOf3 (by decide)) ?_
            refine l_storevi (a' := ⟨a.src, a.dst, 0, 1000000, 0, a.hiBy⟩) (f := 3) S89 4 rfl rfl hat76 rfl rfl Try.sizeOf3 hcur (by decide) rfl ?_
            intro w90 S91 hk92
            refine l_x rfl (x_nilCheck rfl) ?_
            refine l_x rfl (x_fieldAddr rfl Try.runUnderlying39 rfl Try.sizeOf3 (by decide)) ?_
            refine l_storevi (a' := ⟨a.src, a.dst, 0, 1000000, 0, 0⟩) (f := 5) S91 4 rfl rfl hat76 rfl rfl Try.sizeOf3 (set_get hcur) (by decide) rfl ?_
            intro w93 S94 hk95
            refine l_nil ?_
            refine r_inBlock ?_
            refine r_region ?_
            refine l_x rfl (x_add rfl rfl (by omega)) ?_
            refine l_x rfl (x_mv rfl) ?_
            refine l_nil ?_
            exact IH (i + 1) _ _ (by omega) ⟨rfl, rfl, rfl, rfl, rfl, rfl, trivial⟩ ⟨by omega, (by rw [← prm_step ha, wot11 hc38 hc50]; have hS := S94.take 6; rw [List.set_set (α := Arc), List.set_set (α := Arc), List.set_set (α := Arc)] at hS; exact hS)⟩
          · skip
            refine r_skip ?_
            refine r_inBlock ?_
            refine r_region ?_
            refine l_x rfl (x_add rfl rfl (by omega)) ?_
            refine l_x rfl (x_mv rfl) ?_
            refine l_nil ?_
            exact IH (i + 1) _ _ (by omega) ⟨rfl, rfl, rfl, rfl, rfl, rfl, trivial⟩ ⟨by omega, (by rw [← prm_step ha, wot10 hc38 hc50]; have hS := S89.take 6; rw [List.set_set (α := Arc)] at hS; exact hS)⟩
        · skip
          refine r_skip ?_
          refine r_seq ?_
          
          refine r_drawR 6 Try.mixed (by kernel_rfl) ?_
          refine w_x rfl (fun w1 h1 => x_mv rfl) ?_
          refine w_x rfl (fun w1 h1 => x_nilCheck rfl) ?_
          refine w_x rfl (fun w1 h1 => x_fieldAddr rfl Try.runUnderlying39 rfl Try.sizeOf3 (by decide)) ?_
          refine w_x rfl (fun w1 h1 => x_load rfl (ld_cell Try.isAgg3 ((rd_row (vec_rd ((S80.step h1).at 4 rfl)) hat76 hcur) 5 _ rfl))) ?_
          refine w_x rfl (fun w1 h1 => x_load rfl (ld_blk ((S80.step h1).blk 1 rfl) Try.isAgg3 rfl)) ?_
          refine w_x rfl (fun w1 h1 => x_eql rfl rfl) ?_
          refine w_nil ?_
          intro w96 hl97
          have S98 := S80.step hl97
          refine l_nil ?_
          refine r_ifd rfl (fun hc50 => ?_) (fun hc50 => ?_)
          · skip
            
            refine r_region ?_
            refine l_x rfl (x_mv rfl) ?_
            refine l_x rfl (x_mv rfl) ?_
            refine l_x rfl (x_nilCheck rfl) ?_
            refine l_x rfl (x_fieldAddr rfl Try.runUnderlying39 rfl Try.sizeOf3 (by decide)) ?_
            refine l_storevi (a' := ⟨a.src, a.dst, a.lo, 1000000, a.loBy, a.hiBy⟩) (f := 3) S98 4 rfl rfl hat76 rfl rfl Try.sizeOf3 hcur (by decide) rfl ?_
            intro w99 S100 hk101
            refine l_x rfl (x_nilCheck rfl) ?_
            refine l_x rfl (x_fieldAddr rfl Try.runUnderlying39 rfl Try.sizeOf3 (by decide)) ?_
            refine l_storevi (a' := ⟨a.src, a.dst, a.lo, 1000000, a.loBy, 0⟩) (f := 5) S100 4 rfl rfl hat76 rfl rfl Try.sizeOf3 (set_get hcur) (by decide) rfl ?_
            intro w102 S103 hk104
            refine l_nil ?_
            refine r_inBlock ?_
            refine r_region ?_
            refine l_x rfl (x_add rfl rfl (by omega)) ?_
            refine l_x rfl (x_mv rfl) ?_
            refine l_nil ?_
            exact IH (i + 1) _ _ (by omega) ⟨rfl, rfl, rfl, rfl, rfl, rfl, trivial⟩ ⟨by omega, (by rw [← prm_step ha, wot01 hc38 hc50]; have hS := S103.take 6; rw [List.set_set (α := Arc)] at hS; exact hS)⟩
          · skip
            refine r_skip ?_
            refine r_inBlock ?_
            refine r_region ?_
            refine l_x rfl (x_add rfl rfl (by omega)) ?_
            refine l_x rfl (x_mv rfl) ?_
            refine l_nil ?_
            exact IH (i + 1) _ _ (by omega) ⟨rfl, rfl, rfl, rfl, rfl, rfl, trivial⟩ ⟨by omega, (by rw [← prm_step ha, wot00 hc38 hc50, set_same (prm_get ha)]; exact S98.take 6)⟩
      · skip
        have hie : i = arcs.length := by omega
        subst hie
        refine r_exit rfl ?_
        refine r_seq ?_
        refine r_region ?_
        refine l_x rfl (x_load rfl (ld_blks (S1.blk 3 rfl) Try.isAgg24 Try.sizeOf24 rfl rfl)) ?_
        refine l_stores (vs := [_, _]) S1 2 rfl rfl rfl rfl (ones_cons rfl (ones_cons (Rd.one (vec_rd (S1.at 4 rfl))) ones_nil)) Try.sizeOf24 (by first | exact Nat.le_refl _ | simp) (splice_all rfl) ?_
        intro w105 S106 hk107
        refine l_x rfl (x_as rfl) ?_
        refine l_nil ?_
        refine r_ret (rs := [.cell 4 24, .tmp 5]) [_, _] Try.func45 rfl ⟨⟨_, rfl, (ld_blks (S106.blk 2 rfl) Try.isAgg24 Try.sizeOf24 rfl rfl)⟩, rfl, trivial⟩ ?_
        exact ⟨v2169, by rw [if_pos h0, h0]; rfl, by rw [if_pos h0]; have hS := S106; rw [prm_full] at hS; exact hS.new 4 rfl, S106.le⟩

end Go.Proofs

/-
  Contracts of functions of the program: each by symbolic execution of its text.
-/
namespace Go.Proofs
open Go Go.Vk Go.Vk.Flow

theorem c_rUnitOk (N : Int) (va : Value) (arcs : List Arc) (i k : Int) (hm : arcs.length ≤ 100000) (hi : 0 ≤ i ∧ i < arcs.length) (w : World) (hA : Rd EA w va arcs) :
    Cl Try.prog 56 #[.agg #[.int .i64 N, va], .int .i64 i, .int .i64 k] w fun v w' => New w w' (vec EI v (unit arcs.length i.toNat k)) ∧ Le w w' :=
  (c_rUnit N va arcs i k hm w hA).mono fun _ _ ⟨h1, h2⟩ => ⟨by rw [unitv, if_pos hi] at h1; exact h1, h2⟩
theorem c_Without2 (N : Int) (va : Value) (arcs : List Arc) (r : Int) (w : World) (hA : Rd EA w va arcs) :
    Cl Try.prog 45 #[.agg #[.int .i64 N, va], .int .i64 r] w fun v w' =>
      (∃ vh, v = .tuple #[.agg #[.int .i64 N, vh], .int .i64 0] ∧ New w w' (vec EA vh (wot arcs r)) ∧ Le w w' ∧ wotE N arcs r = 0) ∨
      (∃ vh e, v = .tuple #[.agg #[.int .i64 0, vh], .int .i64 e] ∧ New w w' (vec EA vh []) ∧ Le w w' ∧ e = wotE N arcs r ∧ ¬ e = 0) := by
  refine (c_Without N va arcs r w hA).mono fun _ _ ⟨vh, h1, h2, h3⟩ => ?_
  by_cases h0 : wotE N arcs r = 0
  · exact .inl ⟨vh, by rw [h1, if_pos h0, h0], by rw [if_pos h0] at h2; exact h2, h3, h0⟩
  · exact .inr ⟨vh, _, by rw [h1, if_neg h0], by rw [if_neg h0] at h2; exact h2, h3, rfl, h0⟩
theorem no_step {l : List Int} {n x : Int} {i : Nat} (h : ¬ n ∈ l.take i) (hx : l[i]? = some x) (hn : ¬ x = n) : ¬ n ∈ l.take (i + 1) := by
  rw [List.take_add_one, hx]
  intro hh
  rcases List.mem_append.1 hh with h1 | h1
  · exact h h1
  · simp at h1; exact hn h1.symm

/-- couchant/couchantlaw06.has. -/
theorem c_has (vl : Value) (l : List Int) (n : Int) (hm : l.length ≤ 9223372036854775807) (w : World) (hL : Rd EI w vl l) :
    Cl Try.prog 46 #[vl, .int .i64 n] w fun v w' => v = .bool (decide (n ∈ l)) ∧ Le w w' := by
  refine fn_of_run (args := [_, _]) 18 Try.func46 rfl rfl rfl fun cs => ?_
  have S := Own.start (X := nob) w
  refine r_seq ?_
  refine r_region ?_
  refine l_x rfl (x_as rfl) ?_
  refine l_nil ?_
  refine r_seq ?_
  refine r_seq ?_
  refine r_region ?_
  refine l_x rfl (x_as rfl) ?_
  refine l_nil ?_
  refine r_block ?_
  refine r_loop (G := Nat) (fun i => l.length - i) (fun i => [(0, vl), (1, .int .i64 n), (5, .int .i64 i)]) (fun i w' => (i ≤ l.length) ∧ (¬ n ∈ l.take i) ∧ Own nob w w' []) 0 ⟨rfl, rfl, rfl, trivial⟩ ⟨Nat.zero_le _, by simp, S⟩ ?_
  rintro i ρ w1 ⟨hi, hno, S1⟩ IH
  refine r_seq ?_
  refine r_seq ?_
  refine r_region ?_
  refine l_x rfl (x_mv rfl) ?_
  refine l_x rfl (x_mv rfl) ?_
  refine l_x rfl (x_len (hL.le S1.le) rfl Try.runUnderlying25) ?_
  refine l_x rfl (x_lss rfl rfl) ?_
  refine l_nil ?_
  refine r_ifd rfl (fun hc9 => ?_) (fun hc9 => ?_)
  · skip
    obtain ⟨x, hx⟩ : ∃ x, l[i]? = some x := ⟨_, List.getElem?_eq_getElem (by omega)⟩
    refine r_skip ?_
    refine r_seq ?_
    refine r_block ?_
    refine r_seq ?_
    refine r_region ?_
    refine l_x rfl (x_mv rfl) ?_
    refine l_x rfl (x_mv rfl) ?_
    refine l_index EI rfl (hL.le S1.le) rfl rfl Try.runUnderlying25 Try.sizeOf3 (by omega) (by first | assumption | exact List.getElem?_eq_getElem (by omega)) ?_
    intro b1 o2 hat3 row4
    refine l_x rfl (x_load rfl (ld_cell Try.isAgg3 (row4 0 _ rfl))) ?_
    refine l_x rfl (x_mv rfl) ?_
    refine l_x rfl (x_eql rfl rfl) ?_
    refine l_nil ?_
    refine r_ifd rfl (fun hc17 => ?_) (fun hc17 => ?_)
    · skip
      refine r_seq ?_
      refine r_region ?_
      refine l_x rfl (x_as rfl) ?_
      refine l_nil ?_
      refine r_ret (rs := [.tmp 4]) [_] Try.func46 rfl ⟨rfl, trivial⟩ ?_
      exact ⟨congrArg Value.bool (decide_eq_true (hc17 ▸ List.mem_of_getElem? hx)).symm, S1.le⟩
    · skip
      refine r_skip ?_
      refine r_inBlock ?_
      refine r_region ?_
      refine l_x rfl (x_mv rfl) ?_
      refine l_x rfl (x_add rfl rfl (by omega)) ?_
      refine l_x rfl (x_as rfl) ?_
      refine l_nil ?_
      exact IH (i + 1) _ _ (by omega) ⟨rfl, rfl, rfl, trivial⟩ ⟨by omega, no_step hno hx hc17, S1⟩
  · skip
    have hie : i = l.length := by omega
    subst hie
    rw [List.take_length] at hno
    refine r_exit rfl ?_
    refine r_seq ?_
    refine r_region ?_
    refine l_x rfl (x_as rfl) ?_
    refine l_nil ?_
    refine r_ret (rs := [.tmp 4]) [_] Try.func46 rfl ⟨rfl, trivial⟩ ?_
    exact ⟨congrArg Value.bool (decide_eq_false hno).symm, S1.le⟩

end Go.Proofs

/-
  Contracts of functions of the program: each by symbolic execution of its text.
-/
namespace Go.Proofs
open Go Go.Vk Go.Vk.Flow

/-- What the recursive closure of reached holds. -/
abbrev visR (N : Int) (hs : List Hd) (t : List Stp) (k : Int) (bA bB bC bD : Nat) (vs vh : Value) (C : List Bool) : Rsc :=
  pack [blk bA [vs] 101, vec EB vs C, blk bB [vh] 132, vec EH vh hs, pack (nest ES hs (byl N t)), blk bC [.int .i64 k] 3, blk bD [.func (.func 131) #[] #[.pointer (some ⟨bA, 0, none⟩), .pointer (some ⟨bB, 0, none⟩), .pointer (some ⟨bC, 0, none⟩), .pointer (some ⟨bD, 0, none⟩)]] 134]

set_option maxHeartbeats 2000000 in
/-- (*couchant/flow.carried).reached$1. -/
theorem c_visit0 (N : Int) (hs : List Hd) (t : List Stp) (k : Int) (bA bB bC bD : Nat) (vs vh : Value) (hlen : hs.length = N.toNat) (hst : ∀ s ∈ t, 0 ≤ s.dst ∧ s.dst < N) (htl : t.length ≤ 8000) (z : Int) (B : List Bool) (hz : 0 ≤ z ∧ z < N) (hN : N ≤ 1000) (hB : B.length = N.toNat)
    (ih : ∀ (C : List Bool) (u : Int) (w : World), C.count false < B.count false → C.length = N.toNat → 0 ≤ u ∧ u < N → Own (visR N hs t k bA bB bC bD vs vh C).fp w w [visR N hs t k bA bB bC bD vs vh C] →
      Cl Try.prog 131 #[.int .i64 u, .pointer (some ⟨bA, 0, none⟩), .pointer (some ⟨bB, 0, none⟩), .pointer (some ⟨bC, 0, none⟩), .pointer (some ⟨bD, 0, none⟩)] w fun _ w' => ∃ D, Dfs (byl N t) k u.toNat C D ∧ Own (visR N hs t k bA bB bC bD vs vh C).fp w w' [visR N hs t k bA bB bC bD vs vh D]) (w : World) (Sp : Own (visR N hs t k bA bB bC bD vs vh B).fp w w [visR N hs t k bA bB bC bD vs vh B]) :
    Cl Try.prog 131 #[.int .i64 z, .pointer (some ⟨bA, 0, none⟩), .pointer (some ⟨bB, 0, none⟩), .pointer (some ⟨bC, 0, none⟩), .pointer (some ⟨bD, 0, none⟩)] w fun _ w' => ∃ C, Dfs (byl N t) k z.toNat B C ∧ Own (visR N hs t k bA bB bC bD vs vh B).fp w w' [visR N hs t k bA bB bC bD vs vh C] := by
  have S := Sp.open
  obtain ⟨b0, hb0⟩ : ∃ b0, B[z.toNat]? = some b0 := ⟨_, List.getElem?_eq_getElem (by omega)⟩
  obtain ⟨h0, hh⟩ : ∃ h0, hs[z.toNat]? = some h0 := ⟨_, List.getElem?_eq_getElem (by omega)⟩
  have hl := byl_get (N := N) (t := t) (v := z.toNat) (by omega)
  have hll := List.length_filter_le (fun s : Stp => decide (s.src = ((z.toNat : Nat) : Int))) t
  refine fn_of_run (args := [_, _, _, _, _]) 33 Try.func131 rfl rfl rfl fun cs => ?_
  refine r_seq ?_
  refine r_seq ?_
  refine r_region ?_
  refine l_x rfl (x_load rfl (ld_blk (S.blk 0 rfl) Try.isAgg101 rfl)) ?_
  refine l_x rfl (x_mv rfl) ?_
  refine l_index EB rfl (vec_rd (S.at 1 rfl)) rfl rfl Try.runUnderlying101 Try.sizeOf4 (by omega) hb0 ?_
  intro b1 o2 hat3 row4
  refine l_x rfl (x_load rfl (ld_cell Try.isAgg4 (row4 0 _ rfl))) ?_
  refine l_nil ?_
  refine r_if rfl (fun hc11 => ?_) (fun hc11 => ?_)
  · skip
    refine r_ret (rs := []) [] Try.func131 rfl trivial ?_
    exact ⟨B, Dfs.same (by rw [hb0, hc11]), S.close⟩
  · skip
    have hbf : b0 = false := by simpa using hc11
    subst hbf
    refine r_skip ?_
    refine r_seq ?_
    refine r_region ?_
    refine l_x rfl (x_load rfl (ld_blk (S.blk 0 rfl) Try.isAgg101 rfl)) ?_
    refine l_x rfl (x_mv rfl) ?_
    refine l_index EB rfl (vec_rd (S.at 1 rfl)) rfl rfl Try.runUnderlying101 Try.sizeOf4 (by omega) hb0 ?_
    intro b5 o6 hat7 row8
    refine l_storevb (f := 0) S 1 rfl rfl hat7 rfl rfl Try.sizeOf4 hb0 (by decide) rfl ?_
    intro w9 S10 hk11
    refine l_nil ?_
    refine r_seq ?_
    refine r_region ?_
    refine l_x rfl (x_load rfl (ld_blk (S10.blk 2 rfl) Try.isAgg132 rfl)) ?_
    refine l_x rfl (x_mv rfl) ?_
    refine l_index EH rfl (vec_rd (S10.at 3 rfl)) rfl rfl Try.runUnderlying132 Try.sizeOf135 (by omega) hh ?_
    intro b12 o13 hat14 row15
    refine l_x rfl (x_load rfl (ld_cell Try.isAgg135 (row15 0 _ rfl))) ?_
    refine l_x rfl (x_len (nest_rd (S10.at 4 rfl) hh hl) rfl Try.runUnderlying135) ?_
    refine l_x rfl (x_mv rfl) ?_
    refine l_nil ?_
    refine r_block ?_
    refine r_loop (G := Nat × List Bool) (fun ⟨i, C⟩ => (t.filter fun s => decide (s.src = ((z.toNat : Nat) : Int))).length - i) (fun ⟨i, C⟩ => [(1, .pointer (some ⟨bA, 0, none⟩)), (2, .pointer (some ⟨bB, 0, none⟩)), (3, .pointer (some ⟨bC, 0, none⟩)), (4, .pointer (some ⟨bD, 0, none⟩)), (18, hv h0), (19, .int .i64 (t.filter fun s => decide (s.src = ((z.toNat : Nat) : Int))).length), (20, .int .i64 i)]) (fun ⟨i, C⟩ w' => (i ≤ (t.filter fun s => decide (s.src = ((z.toNat : Nat) : Int))).length) ∧ (DfsI (byl N t) k z.toNat (t.filter fun s => decide (s.src = ((z.toNat : Nat) : Int))) i B C) ∧ Own (visR N hs t k bA bB bC bD vs vh B).fp w w' [blk bA [vs] 101, vec EB vs C, blk bB [vh] 132, vec EH vh hs, pack (nest ES hs (byl N t)), blk bC [.int .i64 k] 3, blk bD [.func (.func 131) #[] #[.pointer (some ⟨bA, 0, none⟩), .pointer (some ⟨bB, 0, none⟩), .pointer (some ⟨bC, 0, none⟩), .pointer (some ⟨bD, 0, none⟩)]] 134]) (0, B.set z.toNat true) ⟨rfl, rfl, rfl, rfl, rfl, rfl, rfl, trivial⟩ ⟨Nat.zero_le _, DfsI.start, S10⟩ ?_
    rintro ⟨i, C⟩ ρ w1 ⟨hi, hI, S1⟩ IH
    refine r_seq ?_
    refine r_region ?_
    refine l_x rfl (x_lss rfl rfl) ?_
    refine l_nil ?_
    refine r_seq ?_
    refine r_ifd rfl (fun hc21 => ?_) (fun hc21 => ?_)
    · skip
      obtain ⟨s, hs9⟩ : ∃ s, (t.filter fun s => decide (s.src = ((z.toNat : Nat) : Int)))[i]? = some s := ⟨_, List.getElem?_eq_getElem (by omega)⟩
      have hsd := hst s (List.mem_filter.1 (List.mem_of_getElem? hs9)).1
      refine r_skip ?_
      refine r_seq ?_
      refine r_block ?_
      refine r_seq ?_
      refine r_region ?_
      refine l_index ES rfl (nest_rd (S1.at 4 rfl) hh hl) rfl rfl Try.runUnderlying135 Try.sizeOf126 (by omega) hs9 ?_
      intro b16 o17 hat18 row19
      refine l_x rfl (x_load rfl (ld_row Try.isAgg126 Try.sizeOf126 rfl row19)) ?_
      refine l_alloc S1 rfl Try.zeroValue126 rfl ?_
      intro b23 w20 S21 hl22
      refine l_stores S21 7 rfl rfl rfl rfl (ES.one _) Try.sizeOf126 (by first | exact Nat.le_refl _ | simp) (splice_all rfl) ?_
      intro w24 S25 hk26
      refine l_nil ?_
      refine r_seq ?_
      refine r_region ?_
      refine l_x rfl (x_fieldAddr rfl Try.runUnderlying126 rfl Try.sizeOf3 (by decide)) ?_
      refine l_x rfl (x_load rfl (ld_blk (S25.blk 7 rfl) Try.isAgg3 rfl)) ?_
      refine l_x rfl (x_load rfl (ld_blk (S25.blk 5 rfl) Try.isAgg3 rfl)) ?_
      refine l_x rfl (x_neq rfl rfl) ?_
      refine l_nil ?_
      refine r_ifd rfl (fun hc27 => ?_) (fun hc27 => ?_)
      · skip
        refine r_region ?_
        refine l_x rfl (x_load rfl (ld_blk (S25.blk 6 rfl) Try.isAgg134 rfl)) ?_
        refine l_x rfl (x_fieldAddr rfl Try.runUnderlying126 rfl Try.sizeOf3 (by decide)) ?_
        refine l_x rfl (x_load rfl (ld_blk (S25.blk 7 rfl) Try.isAgg3 rfl)) ?_
        have Sa : Own _ _ _ [_, _, _, _, _, _, _, _] := S25.pick [7, 0, 1, 2, 3, 4, 5, 6] (by decide) rfl
        have Sb := Own.pack (A := [_]) (L := [_, _, _, _, _, _, _]) Sa
        refine l_call [] [_, _, _, _] [_, _, _, _, _] rfl rfl Try.call131 rfl (ih C s.dst _ (hI.count hb0) (hI.len.trans hB) hsd (Sb.lend 1 rfl)) ?_
        rintro _ w27 ⟨D30, hD31, hback28⟩
        have S29 := Own.unpack (A := [_]) (L := [_, _, _, _, _, _, _]) (Sb.back 1 rfl hback28)
        refine l_nil ?_
        refine r_inBlock ?_
        refine r_region ?_
        refine l_x rfl (x_add rfl rfl (by omega)) ?_
        refine l_x rfl (x_mv rfl) ?_
        refine l_nil ?_
        exact IH (i + 1, D30) _ _ (by dsimp only; omega) ⟨rfl, rfl, rfl, rfl, rfl, rfl, rfl, trivial⟩ ⟨by omega, hI.visit hl hs9 hc27 hD31, (S29.pick [1, 2, 3, 4, 5, 6, 7] (by decide) rfl)⟩
      · skip
        refine r_skip ?_
        refine r_inBlock ?_
        refine r_region ?_
        refine l_x rfl (x_add rfl rfl (by omega)) ?_
        refine l_x rfl (x_mv rfl) ?_
        refine l_nil ?_
        exact IH (i + 1, C) _ _ (by dsimp only; omega) ⟨rfl, rfl, rfl, rfl, rfl, rfl, rfl, trivial⟩ ⟨by omega, hI.skip hs9 (Decidable.not_not.1 hc27), (S25.take 7)⟩
    · skip
      have hie : i = (t.filter fun s => decide (s.src = ((z.toNat : Nat) : Int))).length := by omega
      subst hie
      refine r_exit rfl ?_
      refine r_end (rs := []) [] Try.func131 rfl trivial ?_
      exact ⟨C, hI.fin hl hb0, S1.close⟩

/-- The closure, however deep it calls itself. -/
theorem c_visit (N : Int) (hs : List Hd) (t : List Stp) (k : Int) (bA bB bC bD : Nat) (vs vh : Value) (hlen : hs.length = N.toNat) (hst : ∀ s ∈ t, 0 ≤ s.dst ∧ s.dst < N) (htl : t.length ≤ 8000) (hN : N ≤ 1000) : ∀ (n : Nat) (B : List Bool) (z : Int) (w : World), B.count false ≤ n → B.length = N.toNat → 0 ≤ z ∧ z < N → Own (visR N hs t k bA bB bC bD vs vh B).fp w w [visR N hs t k bA bB bC bD vs vh B] →
    Cl Try.prog 131 #[.int .i64 z, .pointer (some ⟨bA, 0, none⟩), .pointer (some ⟨bB, 0, none⟩), .pointer (some ⟨bC, 0, none⟩), .pointer (some ⟨bD, 0, none⟩)] w fun _ w' => ∃ C, Dfs (byl N t) k z.toNat B C ∧ Own (visR N hs t k bA bB bC bD vs vh B).fp w w' [visR N hs t k bA bB bC bD vs vh C] := by
  intro n
  induction n with
  | zero => intro B z w hn hB hz S0; exact c_visit0 N hs t k bA bB bC bD vs vh hlen hst htl z B hz hN hB (fun C u w1 h => absurd h (by omega)) w S0
  | succ n ih => intro B z w hn hB hz S0; exact c_visit0 N hs t k bA bB bC bD vs vh hlen hst htl z B hz hN hB (fun C u w1 h hC hu S1 => ih C u w1 (by omega) hC hu S1) w S0

set_option maxHeartbeats 2000000 in
/-- (*couchant/flow.carried).reached. -/
theorem c_reached (N : Int) (va : Value) (arcs : List Arc) (vx : Value) (x : List Int) (vw : Value) (wl : List Int) (m p : Nat → Int) (hV : Valid N arcs) (hx0 : Amts arcs x) (hw0 : Wts arcs wl) (hp : ∀ v, -10000000 ≤ p v ∧ p v ≤ 10000000) (bc : Nat) (z k : Int) (hz : 0 ≤ z ∧ z < N) (w : World) (hq : CarR w bc N va arcs vx x vw wl m p) :
    Cl Try.prog 106 #[.pointer (some ⟨bc, 0, none⟩), .int .i64 z, .int .i64 k] w fun v w' => ∃ D, New w w' (vec EB v D) ∧ Le w w' ∧ Dfs (byl N (stps p 0 arcs x wl)) k z.toNat (List.replicate N.toNat false) D := by
  have hNx := hV.max
  have hN1 := hV.pos
  have hLx := hV.len
  have htl := stps_len p 0 arcs x wl
  refine fn_of_run (args := [_, _, _]) 23 Try.func106 rfl rfl rfl fun cs => ?_
  have S := Own.start (X := nob) w
  refine r_seq ?_
  refine r_region ?_
  refine l_box S rfl rfl ?_
  intro b4 w1 S2 hl3
  refine l_x rfl (x_as rfl) ?_
  refine l_nil ?_
  refine r_seq ?_
  refine r_region ?_
  refine l_x rfl (x_mv rfl) ?_
  refine l_call [] [] [_] rfl rfl Try.call130 rfl (c_by N va arcs vx x vw wl m p hV hx0 hw0 hp bc _ (hq.le S2.le)) ?_
  rintro vh w5 ⟨hs, hlen, h7⟩
  have S6 := S2.join h7
  refine l_alloc S6 rfl Try.zeroValue132 rfl ?_
  intro b11 w8 S9 hl10
  refine l_storeq (c' := [_]) (v := vh) S9 3 rfl rfl rfl rfl (Rd.one (vec_rd (S9.at 1 rfl))) Try.sizeOf132 (by simp) rfl ?_
  intro w12 S13 hk14
  refine l_nil ?_
  refine r_seq ?_
  refine r_region ?_
  refine l_x rfl (x_mv rfl) ?_
  refine l_x rfl (x_nilCheck rfl) ?_
  refine l_x rfl (x_fieldAddr rfl Try.runUnderlying91 rfl Try.sizeOf24 (by decide)) ?_
  refine l_x rfl (x_fieldAddr rfl Try.runUnderlying24 rfl Try.sizeOf3 (by decide)) ?_
  refine l_x rfl (x_load rfl (ld_blk (hq.le S13.le).blk Try.isAgg3 rfl)) ?_
  refine l_make EB false S13 rfl Try.runUnderlying101 Try.sizeOf4 Try.typeInfo4 Try.zeroValue4 rfl rfl (congrArg (Value.int .i64) (Int.toNat_of_nonneg (by omega)).symm) (congrArg (Value.int .i64) (Int.toNat_of_nonneg (by omega)).symm) (Nat.le_refl _) (by unfold maxLen; omega) (by show _ * 1 ≤ _; omega) ?_
  intro v18 w15 hv19 S16 hl17
  refine l_alloc S16 rfl Try.zeroValue101 rfl ?_
  intro b23 w20 S21 hl22
  refine l_storeq (c' := [_]) (v := v18) S21 5 rfl rfl rfl rfl (Rd.one (vec_rd (S21.at 4 rfl))) Try.sizeOf101 (by simp) rfl ?_
  intro w24 S25 hk26
  refine l_nil ?_
  refine r_seq ?_
  refine r_region ?_
  refine l_alloc S25 rfl Try.zeroValue134 rfl ?_
  intro b30 w27 S28 hl29
  refine l_nil ?_
  refine r_seq ?_
  refine r_region ?_
  refine l_x rfl (x_func rfl rfl) ?_
  refine l_storeq (c' := [_]) S28 6 rfl rfl rfl rfl rfl Try.sizeOf134 (by simp) rfl ?_
  intro w31 S32 hk33
  refine l_nil ?_
  refine r_seq ?_
  refine r_region ?_
  refine l_x rfl (x_load rfl (ld_blk (S32.blk 6 rfl) Try.isAgg134 rfl)) ?_
  refine l_x rfl (x_mv rfl) ?_
  have Sa : Own _ _ _ [_, _, _, _, _, _, _] := S32.pick [5, 4, 3, 1, 2, 0, 6] (by decide) rfl
  have Sb := Sa.close
  refine l_call [] [_, _, _, _] [_, _, _, _, _] rfl rfl Try.call131 rfl (c_visit N hs (stps p 0 arcs x wl) k _ _ _ _ _ _ hlen (fun s hs => (stps_ok hV hs).2.2.imp_right fun h => h.1) (by omega) hNx _ (List.replicate N.toNat false) z _ (Nat.le_refl _) List.length_replicate hz (Sb.lend 0 rfl)) ?_
  rintro _ w34 ⟨D, hD, hback35⟩
  have S36 := (Sb.back 0 rfl hback35).open
  refine l_nil ?_
  refine r_seq ?_
  refine r_region ?_
  refine l_x rfl (x_load rfl (ld_blk (S36.blk 0 rfl) Try.isAgg101 rfl)) ?_
  refine l_x rfl (x_as rfl) ?_
  refine l_nil ?_
  refine r_ret (rs := [.tmp 6]) [_] Try.func106 rfl ⟨rfl, trivial⟩ ?_
  exact ⟨D, S36.new 1 rfl, S36.le, hD⟩

end Go.Proofs

/-
  Contracts of functions of the program: each by symbolic execution of its text.
-/
namespace Go.Proofs
open Go Go.Vk Go.Vk.Flow

set_option maxHeartbeats 4000000 in
/-- couchant/flow.Fixed. -/
theorem c_Fixed (N : Int) (va : Value) (arcs : List Arc) (w : World) (hA : Rd EA w va arcs) :
    Cl Try.prog 60 #[.agg #[.int .i64 N, va]] w fun v w' => ∃ s l e, v = .tuple #[s, .int .i64 e] ∧ New w w' (vec EI s l) ∧ Le w w' ∧ FixR N arcs l e := by
  refine fn_of_run (args := [_]) 92 Try.func60 rfl rfl rfl fun cs => ?_
  have S := Own.start (X := nob) w
  refine r_seq ?_
  refine r_region ?_
  refine l_box S rfl rfl ?_
  intro b4 w1 S2 hl3
  refine l_x rfl (x_as rfl) ?_
  refine l_x rfl (x_as rfl) ?_
  refine l_nil ?_
  refine r_seq ?_
  refine r_seq ?_
  refine r_region ?_
  refine l_x rfl (x_load rfl (ld_blks (S2.blk 0 rfl) Try.isAgg24 Try.sizeOf24 rfl rfl)) ?_
  refine l_call [] [] [_] rfl rfl Try.call36 rfl (c_Check N va arcs _ (hA.le S2.le)) ?_
  rintro _ w5 ⟨rfl, hl7⟩
  have S6 := S2.step hl7
  refine l_x rfl (x_as rfl) ?_
  refine l_nil ?_
  refine r_seq ?_
  refine r_region ?_
  refine l_x rfl (x_mv rfl) ?_
  refine l_x rfl (x_neq rfl rfl) ?_
  refine l_nil ?_
  refine r_ifd rfl (fun hc16 => ?_) (fun hc16 => ?_)
  · skip
    refine r_seq ?_
    refine r_region ?_
    refine l_x rfl (x_mv rfl) ?_
    refine l_x rfl (x_as rfl) ?_
    refine l_x rfl (x_as rfl) ?_
    refine l_nil ?_
    refine r_ret (rs := [.tmp 2, .tmp 3]) [_, _] Try.func60 rfl ⟨rfl, rfl, trivial⟩ ?_
    exact ⟨_, _, _, rfl, New.nilvec .., S6.le, .bad hc16⟩
  · skip
    have hV := chk_zero.1 (Decidable.not_not.1 hc16)
    have hLx := hV.len
    refine r_skip ?_
    refine r_seq ?_
    refine r_drawE 14 (yng w5) Try.mixed (by kernel_rfl) ?_
    intro w8 hl9
    have S10 := S6.step hl9
    have hy11 : Keep (yng w5) w5 w8 := .of_le hl9
    refine e_exact 0 _ (by kernel_rfl) rfl rfl (by kernel_rfl) rfl (ex_x rfl (fun w1 h1 => x_load rfl (ld_blks ((S6.yng (hy11.trans h1)).blk 0 rfl) Try.isAgg24 Try.sizeOf24 rfl rfl))) ?_
    refine e_exact 1 _ (by kernel_rfl) rfl rfl (by kernel_rfl) rfl (ex_x rfl (fun w1 h1 => x_fieldAddr rfl Try.runUnderlying24 rfl Try.sizeOf22 (by decide))) ?_
    refine e_exact 2 _ (by kernel_rfl) rfl rfl (by kernel_rfl) rfl (ex_x rfl (fun w1 h1 => x_load rfl (ld_blk ((S6.yng (hy11.trans h1)).blk 0 rfl) Try.isAgg22 rfl))) ?_
    refine e_exact 3 _ (by kernel_rfl) rfl rfl (by kernel_rfl) rfl (ex_x rfl (fun w1 h1 => x_len (hA.le (S6.yng (hy11.trans h1)).le) rfl Try.runUnderlying22)) ?_
    refine e_next [4, 10] (by kernel_rfl) (by kernel_rfl) ⟨⟨_, _, rfl, rfl, ?_⟩, ⟨_, _, rfl, rfl, ?_⟩, trivial⟩
    · skip
      refine s_make EI 0 S10 rfl Try.runUnderlying25 Try.sizeOf3 Try.typeInfo3 Try.zeroValue3 rfl rfl rfl rfl (Nat.le_refl _) (by unfold maxLen; omega) (by show _ * 8 ≤ _; omega) ?_
      intro v15 w12 hv16 S13 hl14
      refine ⟨.of_le hl14, ?_⟩
      have hy17 : Keep (yng w5) w5 w12 := hy11.trans (Keep.of_le hl14)
      refine e_next [5, 10] (by kernel_rfl) (by kernel_rfl) ⟨⟨_, _, rfl, rfl, ?_⟩, ⟨_, _, rfl, rfl, ?_⟩, trivial⟩
      · skip
        refine s_callf [] [] [_, _] rfl rfl Try.call71 rfl ((c_best N va arcs _ _ hV (zero_wts arcs) _ (hA.le S13.le) (vec_rd (S13.at 1 rfl))).mono ?_)
        rintro _ w18 (⟨bc2418, vx2418, x2418, mo2418, p2418, rfl, hO2418, hC2418, hmo2418⟩ | ⟨A2418, vn2418, ns2418, rfl, hN2418, hl2418, hh2418⟩)
        · skip
          have S19 := S13.join hO2418
          refine ⟨.of_le hO2418.le, ?_⟩
          have hy20 : Keep (yng w5) w5 w18 := hy17.trans (Keep.of_le hO2418.le)
          refine e_exact 6 _ (by kernel_rfl) rfl rfl (by kernel_rfl) rfl (ex_x rfl (fun w1 h1 => x_mv rfl)) ?_
          refine e_exact 7 _ (by kernel_rfl) rfl rfl (by kernel_rfl) rfl (ex_x rfl (fun w1 h1 => x_extract rfl rfl)) ?_
          refine e_exact 8 _ (by kernel_rfl) rfl rfl (by kernel_rfl) rfl (ex_x rfl (fun w1 h1 => x_extract rfl rfl)) ?_
          refine e_exact 9 _ (by kernel_rfl) rfl rfl (by kernel_rfl) rfl (ex_x rfl (fun w1 h1 => x_extract rfl rfl)) ?_
          refine e_next [10] (by kernel_rfl) (by kernel_rfl) ⟨⟨_, _, rfl, rfl, ?_⟩, trivial⟩
          refine s_allocY S19 rfl Try.zeroValue43 rfl ?_
          intro b24 w21 S22 hl23 hb25
          refine ⟨.of_le hl23, ?_⟩
          have hy26 : Keep (yng w5) w5 w21 := hy20.trans (Keep.of_le hl23)
          refine e_exact 11 _ (by kernel_rfl) rfl rfl (by kernel_rfl) rfl (ex_x rfl (fun w1 h1 => x_as rfl)) ?_
          refine e_next [12] (by kernel_rfl) (by kernel_rfl) ⟨⟨_, _, rfl, rfl, ?_⟩, trivial⟩
          refine s_stores (vs := [_, _]) S22 4 rfl rfl rfl rfl (ones_cons rfl (ones_cons rfl ones_nil)) Try.sizeOf43 (by first | exact Nat.le_refl _ | simp) (splice_all rfl) ?_
          intro w27 S28 hk29
          refine ⟨(yng_blk hy20 hb25 hk29), ?_⟩
          have hy30 : Keep (yng w5) w5 w27 := hy26.trans ((yng_blk hy20 hb25 hk29))
          refine e_exact 13 _ (by kernel_rfl) rfl rfl (by kernel_rfl) rfl (ex_x rfl (fun w1 h1 => x_as rfl)) ?_
          refine e_done (by kernel_rfl) ?_
          refine l_nil ?_
          refine r_seq ?_
          refine r_seq ?_
          refine r_region ?_
          refine l_x rfl (x_mv rfl) ?_
          refine l_x rfl (x_not rfl) ?_
          refine l_nil ?_
          refine r_false rfl ?_
          refine r_skip ?_
          refine r_seq ?_
          have S31 := S28.pick (L' := [_, _, _, _]) [0, 1, 2, 3] (by decide) rfl
          refine r_forget [(1, .pointer (some ⟨b4, 0, none⟩)), (5, .pointer (some ⟨bc2418, 0, none⟩))] ⟨rfl, rfl, trivial⟩ ?_
          intro ρ32
          have hcirc := hC2418.circ hV hmo2418
          have hxl := hcirc.bds.1
          have hNx := hV.max
          have hN1 := hV.pos
          refine r_region ?_
          refine l_x rfl (x_as rfl) ?_
          have S33 := S31.nilvec (E := EI)
          refine l_nil ?_
          refine r_seq ?_
          refine r_seq ?_
          refine r_region ?_
          refine l_x rfl (x_fieldAddr rfl Try.runUnderlying24 rfl Try.sizeOf22 (by decide)) ?_
          refine l_x rfl (x_load rfl (ld_blk (S33.blk 0 rfl) Try.isAgg22 rfl)) ?_
          refine l_x rfl (x_len (hA.le S33.le) rfl Try.runUnderlying22) ?_
          refine l_x rfl (x_mv rfl) ?_
          refine l_nil ?_
          refine r_block ?_
          refine r_loop (G := Nat × Value) (fun ⟨i, vr⟩ => arcs.length - i) (fun ⟨i, vr⟩ => [(1, .pointer (some ⟨b4, 0, none⟩)), (5, .pointer (some ⟨bc2418, 0, none⟩)), (31, va), (32, .int .i64 arcs.length), (33, .int .i64 i), (8, vr)]) (fun ⟨i, vr⟩ w' => (i ≤ arcs.length) ∧ Own nob w w' [blk b4 [.int .i64 N, va] 24, vec EI v15 (List.replicate arcs.length 0), blk bc2418 (carC N va vx2418 v15 mo2418 p2418) 91, vec EI vx2418 x2418, vec EI vr (stk arcs x2418 i)]) (0, .slice none 0 0) ⟨rfl, rfl, rfl, rfl, rfl, rfl, trivial⟩ ⟨Nat.zero_le _, S33⟩ ?_
          rintro ⟨i, vr⟩ ρ w1 ⟨hi, S1⟩ IH
          refine r_seq ?_
          refine r_region ?_
          refine l_x rfl (x_lss rfl rfl) ?_
          refine l_nil ?_
          refine r_seq ?_
          refine r_ifd rfl (fun hc34 => ?_) (fun hc34 => ?_)
          · skip
            obtain ⟨a, ha⟩ : ∃ a, arcs[i]? = some a := ⟨_, List.getElem?_eq_getElem (by omega)⟩
            obtain ⟨y, hy⟩ : ∃ y, x2418[i]? = some y := ⟨_, List.getElem?_eq_getElem (by omega)⟩
            have hok := hV.at ha
            have hsk := stk_len arcs x2418 i
            refine r_skip ?_
            refine r_seq ?_
            refine r_block ?_
            refine r_seq ?_
            refine r_region ?_
            refine l_x rfl (x_mv rfl) ?_
            refine l_index EA rfl (hA.le S1.le) rfl rfl Try.runUnderlying22 Try.sizeOf39 (by omega) ha ?_
            intro b34 o35 hat36 row37
            refine l_x rfl (x_load rfl (ld_row Try.isAgg39 Try.sizeOf39 rfl row37)) ?_
            refine l_alloc S1 rfl Try.zeroValue39 rfl ?_
            intro b41 w38 S39 hl40
            refine l_x rfl (x_as rfl) ?_
            refine l_stores S39 5 rfl rfl rfl rfl (EA.one _) Try.sizeOf39 (by first | exact Nat.le_refl _ | simp) (splice_all rfl) ?_
            intro w42 S43 hk44
            refine l_nil ?_
            refine r_seq ?_
            refine r_drawE 22 nob Try.mixed (by kernel_rfl) ?_
            intro w45 hl46
            have S47 := S43.step hl46
            refine e_exact 0 _ (by kernel_rfl) rfl rfl (by kernel_rfl) rfl (ex_x rfl (fun w1 h1 => x_mv rfl)) ?_
            refine e_exact 1 _ (by kernel_rfl) rfl rfl (by kernel_rfl) rfl (ex_x rfl (fun w1 h1 => x_nilCheck rfl)) ?_
            refine e_exact 2 _ (by kernel_rfl) rfl rfl (by kernel_rfl) rfl (ex_x rfl (fun w1 h1 => x_fieldAddr rfl Try.runUnderlying91 rfl Try.sizeOf25 (by decide))) ?_
            refine e_exact 3 _ (by kernel_rfl) rfl rfl (by kernel_rfl) rfl (ex_x rfl (fun w1 h1 => x_load rfl (ld_blk ((S47.step h1).blk 2 rfl) Try.isAgg25 rfl))) ?_
            refine e_exact 4 _ (by kernel_rfl) rfl rfl (by kernel_rfl) rfl (ex_x rfl (fun w1 h1 => x_mv rfl)) ?_
            refine e_index EI 5 (by kernel_rfl) rfl rfl (by kernel_rfl) rfl rfl (vec_rd (S47.at 3 rfl)) rfl rfl Try.runUnderlying25 Try.sizeOf3 (by omega) hy ?_
            intro b48 o49 hat50
            refine e_exact 6 _ (by kernel_rfl) rfl rfl (by kernel_rfl) rfl (ex_x rfl (fun w1 h1 => x_load rfl (ld_cell Try.isAgg3 ((rd_row (vec_rd ((S47.step h1).at 3 rfl)) hat50 hy) 0 _ rfl)))) ?_
            refine e_exact 7 _ (by kernel_rfl) rfl rfl (by kernel_rfl) rfl (ex_x rfl (fun w1 h1 => x_fieldAddr rfl Try.runUnderlying39 rfl Try.sizeOf3 (by decide))) ?_
            refine e_exact 8 _ (by kernel_rfl) rfl rfl (by kernel_rfl) rfl (ex_x rfl (fun w1 h1 => x_load rfl (ld_blk ((S47.step h1).blk 5 rfl) Try.isAgg3 rfl))) ?_
            refine e_exact 9 _ (by kernel_rfl) rfl rfl (by kernel_rfl) rfl (ex_x rfl (fun w1 h1 => x_lss rfl rfl)) ?_
            refine e_exact 10 _ (by kernel_rfl) rfl rfl (by kernel_rfl) rfl (ex_x rfl (fun w1 h1 => x_mv rfl)) ?_
            refine e_splitd (d := 48) rfl (fun hg48 => ?_) (fun hg48 => ?_)
            · skip
              refine e_exact 11 _ (by kernel_rfl) rfl rfl (by kernel_rfl) rfl (ex_x rfl (fun w1 h1 => x_mv rfl)) ?_
              refine e_exact 12 _ (by kernel_rfl) rfl rfl (by kernel_rfl) rfl (ex_x rfl (fun w1 h1 => x_fieldAddr rfl Try.runUnderlying39 rfl Try.sizeOf3 (by decide))) ?_
              refine e_exact 13 _ (by kernel_rfl) rfl rfl (by kernel_rfl) rfl (ex_x rfl (fun w1 h1 => x_load rfl (ld_blk ((S47.step h1).blk 5 rfl) Try.isAgg3 rfl))) ?_
              refine e_exact 14 _ (by kernel_rfl) rfl rfl (by kernel_rfl) rfl (ex_x rfl (fun w1 h1 => x_mv rfl)) ?_
              refine e_exact 16 _ (by kernel_rfl) rfl rfl (by kernel_rfl) rfl (ex_x rfl (fun w1 h1 => x_fieldAddr rfl Try.runUnderlying39 rfl Try.sizeOf3 (by decide))) ?_
              refine e_exact 17 _ (by kernel_rfl) rfl rfl (by kernel_rfl) rfl (ex_x rfl (fun w1 h1 => x_load rfl (ld_blk ((S47.step h1).blk 5 rfl) Try.isAgg3 rfl))) ?_
              refine e_next [15] (by kernel_rfl) (by kernel_rfl) ⟨⟨_, _, rfl, rfl, ?_⟩, trivial⟩
              refine s_callf [] [] [_, _, _] rfl rfl Try.call106 rfl ((c_reached N va arcs vx2418 x2418 v15 (List.replicate arcs.length 0) mo2418 p2418 hV (hcirc.amts hV) (zero_wts arcs) (fun v => by have := hC2418.pb v; omega) bc2418 _ (i : Int) ⟨by omega, by omega⟩ _ ⟨S47.blk 2 rfl, hA.le S47.le, vec_rd (S47.at 3 rfl), vec_rd (S47.at 1 rfl)⟩).mono ?_)
              rintro v5351 w51 ⟨D5351, hN5351, hl5351, hD5351⟩
              have S52 := S47.add hl5351 hN5351
              refine ⟨.of_le hl5351, ?_⟩
              have hDl5351 := hD5351.len.trans List.length_replicate
              have hM5351 : ∀ u : Nat, D5351[u]? = some true ↔ Rch arcs x2418 (i : Int) a.dst.toNat u := fun u => (hD5351.all u).trans (Go'.rch hV List.length_replicate)
              obtain ⟨q5351, hb5351⟩ : ∃ q, D5351[a.src.toNat]? = some q := ⟨_, List.getElem?_eq_getElem (by omega)⟩
              refine e_index EB 18 (by kernel_rfl) rfl rfl (by kernel_rfl) rfl rfl (vec_rd (S52.at 6 rfl)) rfl rfl Try.runUnderlying101 Try.sizeOf4 (by omega) (by first | assumption | exact List.getElem?_eq_getElem (by omega)) ?_
              intro b53 o54 hat55
              refine e_exact 19 _ (by kernel_rfl) rfl rfl (by kernel_rfl) rfl (ex_x rfl (fun w1 h1 => x_load rfl (ld_cell Try.isAgg4 ((rd_row (vec_rd ((S52.step h1).at 6 rfl)) hat55 (by first | assumption | exact List.getElem?_eq_getElem (by omega))) 0 _ rfl)))) ?_
              refine e_exact 20 _ (by kernel_rfl) rfl rfl (by kernel_rfl) rfl (ex_x rfl (fun w1 h1 => x_pick_t rfl rfl)) ?_
              refine e_exact 21 _ (by kernel_rfl) rfl rfl (by kernel_rfl) rfl (ex_x rfl (fun w1 h1 => x_as rfl)) ?_
              refine e_done (by kernel_rfl) ?_
              refine l_nil ?_
              refine r_seq ?_
              have S56 := S52.pick (L' := [_, _, _, _, _, _]) [0, 1, 2, 3, 4, 5] (by decide) rfl
              refine r_forget [(1, .pointer (some ⟨b4, 0, none⟩)), (5, .pointer (some ⟨bc2418, 0, none⟩)), (9, .int .i64 i), (10, .pointer (some ⟨b41, 0, none⟩)), (11, .bool q5351), (31, va), (32, .int .i64 arcs.length), (33, .int .i64 i), (8, vr)] ⟨rfl, rfl, rfl, rfl, rfl, rfl, rfl, rfl, rfl, trivial⟩ ?_
              intro ρ57
              refine r_drawE 22 nob Try.mixed (by kernel_rfl) ?_
              intro w58 hl59
              have S60 := S56.step hl59
              refine e_exact 0 _ (by kernel_rfl) rfl rfl (by kernel_rfl) rfl (ex_x rfl (fun w1 h1 => x_mv rfl)) ?_
              refine e_exact 1 _ (by kernel_rfl) rfl rfl (by kernel_rfl) rfl (ex_x rfl (fun w1 h1 => x_nilCheck rfl)) ?_
              refine e_exact 2 _ (by kernel_rfl) rfl rfl (by kernel_rfl) rfl (ex_x rfl (fun w1 h1 => x_fieldAddr rfl Try.runUnderlying91 rfl Try.sizeOf25 (by decide))) ?_
              refine e_exact 3 _ (by kernel_rfl) rfl rfl (by kernel_rfl) rfl (ex_x rfl (fun w1 h1 => x_load rfl (ld_blk ((S60.step h1).blk 2 rfl) Try.isAgg25 rfl))) ?_
              refine e_exact 4 _ (by kernel_rfl) rfl rfl (by kernel_rfl) rfl (ex_x rfl (fun w1 h1 => x_mv rfl)) ?_
              refine e_index EI 5 (by kernel_rfl) rfl rfl (by kernel_rfl) rfl rfl (vec_rd (S60.at 3 rfl)) rfl rfl Try.runUnderlying25 Try.sizeOf3 (by omega) hy ?_
              intro b61 o62 hat63
              refine e_exact 6 _ (by kernel_rfl) rfl rfl (by kernel_rfl) rfl (ex_x rfl (fun w1 h1 => x_load rfl (ld_cell Try.isAgg3 ((rd_row (vec_rd ((S60.step h1).at 3 rfl)) hat63 hy) 0 _ rfl)))) ?_
              refine e_exact 7 _ (by kernel_rfl) rfl rfl (by kernel_rfl) rfl (ex_x rfl (fun w1 h1 => x_fieldAddr rfl Try.runUnderlying39 rfl Try.sizeOf3 (by decide))) ?_
              refine e_exact 8 _ (by kernel_rfl) rfl rfl (by kernel_rfl) rfl (ex_x rfl (fun w1 h1 => x_load rfl (ld_blk ((S60.step h1).blk 5 rfl) Try.isAgg3 rfl))) ?_
              refine e_exact 9 _ (by kernel_rfl) rfl rfl (by kernel_rfl) rfl (ex_x rfl (fun w1 h1 => x_gtr rfl rfl)) ?_
              refine e_exact 10 _ (by kernel_rfl) rfl rfl (by kernel_rfl) rfl (ex_x rfl (fun w1 h1 => x_mv rfl)) ?_
              refine e_splitd (d := 69) rfl (fun hg69 => ?_) (fun hg69 => ?_)
              · skip
                refine e_exact 11 _ (by kernel_rfl) rfl rfl (by kernel_rfl) rfl (ex_x rfl (fun w1 h1 => x_mv rfl)) ?_
                refine e_exact 12 _ (by kernel_rfl) rfl rfl (by kernel_rfl) rfl (ex_x rfl (fun w1 h1 => x_fieldAddr rfl Try.runUnderlying39 rfl Try.sizeOf3 (by decide))) ?_
                refine e_exact 13 _ (by kernel_rfl) rfl rfl (by kernel_rfl) rfl (ex_x rfl (fun w1 h1 => x_load rfl (ld_blk ((S60.step h1).blk 5 rfl) Try.isAgg3 rfl))) ?_
                refine e_exact 14 _ (by kernel_rfl) rfl rfl (by kernel_rfl) rfl (ex_x rfl (fun w1 h1 => x_mv rfl)) ?_
                refine e_exact 16 _ (by kernel_rfl) rfl rfl (by kernel_rfl) rfl (ex_x rfl (fun w1 h1 => x_fieldAddr rfl Try.runUnderlying39 rfl Try.sizeOf3 (by decide))) ?_
                refine e_exact 17 _ (by kernel_rfl) rfl rfl (by kernel_rfl) rfl (ex_x rfl (fun w1 h1 => x_load rfl (ld_blk ((S60.step h1).blk 5 rfl) Try.isAgg3 rfl))) ?_
                refine e_next [15] (by kernel_rfl) (by kernel_rfl) ⟨⟨_, _, rfl, rfl, ?_⟩, trivial⟩
                refine s_callf [] [] [_, _, _] rfl rfl Try.call106 rfl ((c_reached N va arcs vx2418 x2418 v15 (List.replicate arcs.length 0) mo2418 p2418 hV (hcirc.amts hV) (zero_wts arcs) (fun v => by have := hC2418.pb v; omega) bc2418 _ (i : Int) ⟨by omega, by omega⟩ _ ⟨S60.blk 2 rfl, hA.le S60.le, vec_rd (S60.at 3 rfl), vec_rd (S60.at 1 rfl)⟩).mono ?_)
                rintro v7464 w64 ⟨D7464, hN7464, hl7464, hD7464⟩
                have S65 := S60.add hl7464 hN7464
                refine ⟨.of_le hl7464, ?_⟩
                have hDl7464 := hD7464.len.trans List.length_replicate
                have hM7464 : ∀ u : Nat, D7464[u]? = some true ↔ Rch arcs x2418 (i : Int) a.src.toNat u := fun u => (hD7464.all u).trans (Go'.rch hV List.length_replicate)
                obtain ⟨q7464, hb7464⟩ : ∃ q, D7464[a.dst.toNat]? = some q := ⟨_, List.getElem?_eq_getElem (by omega)⟩
                refine e_index EB 18 (by kernel_rfl) rfl rfl (by kernel_rfl) rfl rfl (vec_rd (S65.at 6 rfl)) rfl rfl Try.runUnderlying101 Try.sizeOf4 (by omega) (by first | assumption | exact List.getElem?_eq_getElem (by omega)) ?_
                intro b66 o67 hat68
                refine e_exact 19 _ (by kernel_rfl) rfl rfl (by kernel_rfl) rfl (ex_x rfl (fun w1 h1 => x_load rfl (ld_cell Try.isAgg4 ((rd_row (vec_rd ((S65.step h1).at 6 rfl)) hat68 (by first | assumption | exact List.getElem?_eq_getElem (by omega))) 0 _ rfl)))) ?_
                refine e_exact 20 _ (by kernel_rfl) rfl rfl (by kernel_rfl) rfl (ex_x rfl (fun w1 h1 => x_pick_t rfl rfl)) ?_
                refine e_exact 21 _ (by kernel_rfl) rfl rfl (by kernel_rfl) rfl (ex_x rfl (fun w1 h1 => x_as rfl)) ?_
                refine e_done (by kernel_rfl) ?_
                refine l_nil ?_
                refine r_seq ?_
                refine r_region ?_
                refine l_x rfl (x_mv rfl) ?_
                refine l_x rfl (x_not rfl) ?_
                refine l_x rfl (x_mv rfl) ?_
                refine l_split (d := 82) rfl (fun hg82 => ?_) (fun hg82 => ?_)
                · skip
                  have hf53 : q5351 = false := by simpa using hg82
                  refine l_x rfl (x_mv rfl) ?_
                  refine l_x rfl (x_not rfl) ?_
                  refine l_x rfl (x_pick_t rfl rfl) ?_
                  refine l_nil ?_
                  refine r_if rfl (fun hc85 => ?_) (fun hc85 => ?_)
                  · skip
                    have hf74 : q7464 = false := by simpa using hc85
                    refine r_region ?_
                    refine l_x rfl (x_mv rfl) ?_
                    refine l_x rfl (x_mv rfl) ?_
                    refine l_buildSlice EI [_] S65 rfl Try.runUnderlying25 Try.sizeOf3 Try.zeroValue3 rfl ⟨rfl, rfl, trivial⟩ (Nat.le_of_ble_eq_true rfl) ?_
                    intro v72 w69 S70 hl71
                    refine l_append EI S70 4 rfl rfl rfl rfl (vec_rd (S70.at 7 rfl)) Try.underlying25 info3 rfl rfl rfl (by unfold maxLen; rw [List.length_singleton]; omega) (by rw [List.length_singleton]; show _ * 8 ≤ _; omega) ?_
                    intro v76 w73 S74 hk75 hv77
                    refine l_x rfl (x_as rfl) ?_
                    refine l_nil ?_
                    refine r_inBlock ?_
                    refine r_region ?_
                    refine l_x rfl (x_add rfl rfl (by omega)) ?_
                    refine l_x rfl (x_mv rfl) ?_
                    refine l_nil ?_
                    have hs : Stuck arcs x2418 i := fun b m hb hm => by
                      rw [ha] at hb; cases hb
                      rw [hy] at hm; cases hm
                      exact ⟨fun h => absurd (hb5351.symm.trans ((hM5351 _).2 h.2)) (by rw [hf53]; decide), fun h => absurd (hb7464.symm.trans ((hM7464 _).2 h.2)) (by rw [hf74]; decide)⟩
                    exact IH (i + 1, v76) _ _ (by dsimp only; omega) ⟨rfl, rfl, rfl, rfl, rfl, rfl, trivial⟩ ⟨by omega, (by rw [stk_yes hs]; exact S74.take 5)⟩
                  · skip
                    have ht74 : q7464 = true := by simpa using hc85
                    refine r_skip ?_
                    refine r_inBlock ?_
                    refine r_region ?_
                    refine l_x rfl (x_add rfl rfl (by omega)) ?_
                    refine l_x rfl (x_mv rfl) ?_
                    refine l_nil ?_
                    have hs : ¬ Stuck arcs x2418 i := fun hs => (hs a y ha hy).2 ⟨hg69, (hM7464 _).1 (hb7464.trans (congrArg some ht74))⟩
                    exact IH (i + 1, vr) _ _ (by dsimp only; omega) ⟨rfl, rfl, rfl, rfl, rfl, rfl, trivial⟩ ⟨by omega, (by rw [stk_no hs]; exact S65.take 5)⟩
                · skip
                  have ht53 : q5351 = true := by simpa using hg82
                  refine l_pass rfl ?_
                  refine l_pass rfl ?_
                  refine l_x rfl (x_pick_f rfl rfl) ?_
                  refine l_nil ?_
                  refine r_false rfl ?_
                  refine r_skip ?_
                  refine r_inBlock ?_
                  refine r_region ?_
                  refine l_x rfl (x_add rfl rfl (by omega)) ?_
                  refine l_x rfl (x_mv rfl) ?_
                  refine l_nil ?_
                  have hs : ¬ Stuck arcs x2418 i := fun hs => (hs a y ha hy).1 ⟨hg48, (hM5351 _).1 (hb5351.trans (congrArg some ht53))⟩
                  exact IH (i + 1, vr) _ _ (by dsimp only; omega) ⟨rfl, rfl, rfl, rfl, rfl, rfl, trivial⟩ ⟨by omega, (by rw [stk_no hs]; exact S65.take 5)⟩
              · skip
                refine e_exact 11 _ (by kernel_rfl) rfl rfl (by kernel_rfl) rfl (ex_pass rfl) ?_
                refine e_exact 12 _ (by kernel_rfl) rfl rfl (by kernel_rfl) rfl (ex_pass rfl) ?_
                refine e_exact 13 _ (by kernel_rfl) rfl rfl (by kernel_rfl) rfl (ex_pass rfl) ?_
                refine e_exact 14 _ (by kernel_rfl) rfl rfl (by kernel_rfl) rfl (ex_pass rfl) ?_
                refine e_exact 15 _ (by kernel_rfl) rfl rfl (by kernel_rfl) rfl (ex_pass rfl) ?_
                refine e_exact 16 _ (by kernel_rfl) rfl rfl (by kernel_rfl) rfl (ex_pass rfl) ?_
                refine e_exact 17 _ (by kernel_rfl) rfl rfl (by kernel_rfl) rfl (ex_pass rfl) ?_
                refine e_exact 18 _ (by kernel_rfl) rfl rfl (by kernel_rfl) rfl (ex_pass rfl) ?_
                refine e_exact 19 _ (by kernel_rfl) rfl rfl (by kernel_rfl) rfl (ex_pass rfl) ?_
                refine e_exact 20 _ (by kernel_rfl) rfl rfl (by kernel_rfl) rfl (ex_x rfl (fun w1 h1 => x_pick_f rfl rfl)) ?_
                refine e_exact 21 _ (by kernel_rfl) rfl rfl (by kernel_rfl) rfl (ex_x rfl (fun w1 h1 => x_as rfl)) ?_
                refine e_done (by kernel_rfl) ?_
                refine l_nil ?_
                refine r_seq ?_
                refine r_region ?_
                refine l_x rfl (x_mv rfl) ?_
                refine l_x rfl (x_not rfl) ?_
                refine l_x rfl (x_mv rfl) ?_
                refine l_split (d := 82) rfl (fun hg82 => ?_) (fun hg82 => ?_)
                · skip
                  have hf53 : q5351 = false := by simpa using hg82
                  refine l_x rfl (x_mv rfl) ?_
                  refine l_x rfl (x_not rfl) ?_
                  refine l_x rfl (x_pick_t rfl rfl) ?_
                  refine l_nil ?_
                  refine r_true rfl ?_
                  refine r_region ?_
                  refine l_x rfl (x_mv rfl) ?_
                  refine l_x rfl (x_mv rfl) ?_
                  refine l_buildSlice EI [_] S60 rfl Try.runUnderlying25 Try.sizeOf3 Try.zeroValue3 rfl ⟨rfl, rfl, trivial⟩ (Nat.le_of_ble_eq_true rfl) ?_
                  intro v81 w78 S79 hl80
                  refine l_append EI S79 4 rfl rfl rfl rfl (vec_rd (S79.at 6 rfl)) Try.underlying25 info3 rfl rfl rfl (by unfold maxLen; rw [List.length_singleton]; omega) (by rw [List.length_singleton]; show _ * 8 ≤ _; omega) ?_
                  intro v85 w82 S83 hk84 hv86
                  refine l_x rfl (x_as rfl) ?_
                  refine l_nil ?_
                  refine r_inBlock ?_
                  refine r_region ?_
                  refine l_x rfl (x_add rfl rfl (by omega)) ?_
                  refine l_x rfl (x_mv rfl) ?_
                  refine l_nil ?_
                  have hs : Stuck arcs x2418 i := fun b m hb hm => by
                    rw [ha] at hb; cases hb
                    rw [hy] at hm; cases hm
                    exact ⟨fun h => absurd (hb5351.symm.trans ((hM5351 _).2 h.2)) (by rw [hf53]; decide), fun h => hg69 h.1⟩
                  exact IH (i + 1, v85) _ _ (by dsimp only; omega) ⟨rfl, rfl, rfl, rfl, rfl, rfl, trivial⟩ ⟨by omega, (by rw [stk_yes hs]; exact S83.take 5)⟩
                · skip
                  have ht53 : q5351 = true := by simpa using hg82
                  refine l_pass rfl ?_
                  refine l_pass rfl ?_
                  refine l_x rfl (x_pick_f rfl rfl) ?_
                  refine l_nil ?_
                  refine r_false rfl ?_
                  refine r_skip ?_
                  refine r_inBlock ?_
                  refine r_region ?_
                  refine l_x rfl (x_add rfl rfl (by omega)) ?_
                  refine l_x rfl (x_mv rfl) ?_
                  refine l_nil ?_
                  have hs : ¬ Stuck arcs x2418 i := fun hs => (hs a y ha hy).1 ⟨hg48, (hM5351 _).1 (hb5351.trans (congrArg some ht53))⟩
                  exact IH (i + 1, vr) _ _ (by dsimp only; omega) ⟨rfl, rfl, rfl, rfl, rfl, rfl, trivial⟩ ⟨by omega, (by rw [stk_no hs]; exact S60.take 5)⟩
            · skip
              refine e_exact 11 _ (by kernel_rfl) rfl rfl (by kernel_rfl) rfl (ex_pass rfl) ?_
              refine e_exact 12 _ (by kernel_rfl) rfl rfl (by kernel_rfl) rfl (ex_pass rfl) ?_
              refine e_exact 13 _ (by kernel_rfl) rfl rfl (by kernel_rfl) rfl (ex_pass rfl) ?_
              refine e_exact 14 _ (by kernel_rfl) rfl rfl (by kernel_rfl) rfl (ex_pass rfl) ?_
              refine e_exact 15 _ (by kernel_rfl) rfl rfl (by kernel_rfl) rfl (ex_pass rfl) ?_
              refine e_exact 16 _ (by kernel_rfl) rfl rfl (by kernel_rfl) rfl (ex_pass rfl) ?_
              refine e_exact 17 _ (by kernel_rfl) rfl rfl (by kernel_rfl) rfl (ex_pass rfl) ?_
              refine e_exact 18 _ (by kernel_rfl) rfl rfl (by kernel_rfl) rfl (ex_pass rfl) ?_
              refine e_exact 19 _ (by kernel_rfl) rfl rfl (by kernel_rfl) rfl (ex_pass rfl) ?_
              refine e_exact 20 _ (by kernel_rfl) rfl rfl (by kernel_rfl) rfl (ex_x rfl (fun w1 h1 => x_pick_f rfl rfl)) ?_
              refine e_exact 21 _ (by kernel_rfl) rfl rfl (by kernel_rfl) rfl (ex_x rfl (fun w1 h1 => x_as rfl)) ?_
              refine e_done (by kernel_rfl) ?_
              refine l_nil ?_
              refine r_seq ?_
              have S87 := S47.pick (L' := [_, _, _, _, _, _]) [0, 1, 2, 3, 4, 5] (by decide) rfl
              refine r_forget [(1, .pointer (some ⟨b4, 0, none⟩)), (5, .pointer (some ⟨bc2418, 0, none⟩)), (9, .int .i64 i), (10, .pointer (some ⟨b41, 0, none⟩)), (11, .bool false), (31, va), (32, .int .i64 arcs.length), (33, .int .i64 i), (8, vr)] ⟨rfl, rfl, rfl, rfl, rfl, rfl, rfl, rfl, rfl, trivial⟩ ?_
              intro ρ88
              refine r_drawE 22 nob Try.mixed (by kernel_rfl) ?_
              intro w89 hl90
              have S91 := S87.step hl90
              refine e_exact 0 _ (by kernel_rfl) rfl rfl (by kernel_rfl) rfl (ex_x rfl (fun w1 h1 => x_mv rfl)) ?_
              refine e_exact 1 _ (by kernel_rfl) rfl rfl (by kernel_rfl) rfl (ex_x rfl (fun w1 h1 => x_nilCheck rfl)) ?_
              refine e_exact 2 _ (by kernel_rfl) rfl rfl (by kernel_rfl) rfl (ex_x rfl (fun w1 h1 => x_fieldAddr rfl Try.runUnderlying91 rfl Try.sizeOf25 (by decide))) ?_
              refine e_exact 3 _ (by kernel_rfl) rfl rfl (by kernel_rfl) rfl (ex_x rfl (fun w1 h1 => x_load rfl (ld_blk ((S91.step h1).blk 2 rfl) Try.isAgg25 rfl))) ?_
              refine e_exact 4 _ (by kernel_rfl) rfl rfl (by kernel_rfl) rfl (ex_x rfl (fun w1 h1 => x_mv rfl)) ?_
              refine e_index EI 5 (by kernel_rfl) rfl rfl (by kernel_rfl) rfl rfl (vec_rd (S91.at 3 rfl)) rfl rfl Try.runUnderlying25 Try.sizeOf3 (by omega) hy ?_
              intro b92 o93 hat94
              refine e_exact 6 _ (by kernel_rfl) rfl rfl (by kernel_rfl) rfl (ex_x rfl (fun w1 h1 => x_load rfl (ld_cell Try.isAgg3 ((rd_row (vec_rd ((S91.step h1).at 3 rfl)) hat94 hy) 0 _ rfl)))) ?_
              refine e_exact 7 _ (by kernel_rfl) rfl rfl (by kernel_rfl) rfl (ex_x rfl (fun w1 h1 => x_fieldAddr rfl Try.runUnderlying39 rfl Try.sizeOf3 (by decide))) ?_
              refine e_exact 8 _ (by kernel_rfl) rfl rfl (by kernel_rfl) rfl (ex_x rfl (fun w1 h1 => x_load rfl (ld_blk ((S91.step h1).blk 5 rfl) Try.isAgg3 rfl))) ?_
              refine e_exact 9 _ (by kernel_rfl) rfl rfl (by kernel_rfl) rfl (ex_x rfl (fun w1 h1 => x_gtr rfl rfl)) ?_
              refine e_exact 10 _ (by kernel_rfl) rfl rfl (by kernel_rfl) rfl (ex_x rfl (fun w1 h1 => x_mv rfl)) ?_
              refine e_splitd (d := 69) rfl (fun hg69 => ?_) (fun hg69 => ?_)
              · skip
                refine e_exact 11 _ (by kernel_rfl) rfl rfl (by kernel_rfl) rfl (ex_x rfl (fun w1 h1 => x_mv rfl)) ?_
                refine e_exact 12 _ (by kernel_rfl) rfl rfl (by kernel_rfl) rfl (ex_x rfl (fun w1 h1 => x_fieldAddr rfl Try.runUnderlying39 rfl Try.sizeOf3 (by decide))) ?_
                refine e_exact 13 _ (by kernel_rfl) rfl rfl (by kernel_rfl) rfl (ex_x rfl (fun w1 h1 => x_load rfl (ld_blk ((S91.step h1).blk 5 rfl) Try.isAgg3 rfl))) ?_
                refine e_exact 14 _ (by kernel_rfl) rfl rfl (by kernel_rfl) rfl (ex_x rfl (fun w1 h1 => x_mv rfl)) ?_
                refine e_exact 16 _ (by kernel_rfl) rfl rfl (by kernel_rfl) rfl (ex_x rfl (fun w1 h1 => x_fieldAddr rfl Try.runUnderlying39 rfl Try.sizeOf3 (by decide))) ?_
                refine e_exact 17 _ (by kernel_rfl) rfl rfl (by kernel_rfl) rfl (ex_x rfl (fun w1 h1 => x_load rfl (ld_blk ((S91.step h1).blk 5 rfl) Try.isAgg3 rfl))) ?_
                refine e_next [15] (by kernel_rfl) (by kernel_rfl) ⟨⟨_, _, rfl, rfl, ?_⟩, trivial⟩
                refine s_callf [] [] [_, _, _] rfl rfl Try.call106 rfl ((c_reached N va arcs vx2418 x2418 v15 (List.replicate arcs.length 0) mo2418 p2418 hV (hcirc.amts hV) (zero_wts arcs) (fun v => by have := hC2418.pb v; omega) bc2418 _ (i : Int) ⟨by omega, by omega⟩ _ ⟨S91.blk 2 rfl, hA.le S91.le, vec_rd (S91.at 3 rfl), vec_rd (S91.at 1 rfl)⟩).mono ?_)
                rintro v7495 w95 ⟨D7495, hN7495, hl7495, hD7495⟩
                have S96 := S91.add hl7495 hN7495
                refine ⟨.of_le hl7495, ?_⟩
                have hDl7495 := hD7495.len.trans List.length_replicate
                have hM7495 : ∀ u : Nat, D7495[u]? = some true ↔ Rch arcs x2418 (i : Int) a.src.toNat u := fun u => (hD7495.all u).trans (Go'.rch hV List.length_replicate)
                obtain ⟨q7495, hb7495⟩ : ∃ q, D7495[a.dst.toNat]? = some q := ⟨_, List.getElem?_eq_getElem (by omega)⟩
                refine e_index EB 18 (by kernel_rfl) rfl rfl (by kernel_rfl) rfl rfl (vec_rd (S96.at 6 rfl)) rfl rfl Try.runUnderlying101 Try.sizeOf4 (by omega) (by first | assumption | exact List.getElem?_eq_getElem (by omega)) ?_
                intro b97 o98 hat99
                refine e_exact 19 _ (by kernel_rfl) rfl rfl (by kernel_rfl) rfl (ex_x rfl (fun w1 h1 => x_load rfl (ld_cell Try.isAgg4 ((rd_row (vec_rd ((S96.step h1).at 6 rfl)) hat99 (by first | assumption | exact List.getElem?_eq_getElem (by omega))) 0 _ rfl)))) ?_
                refine e_exact 20 _ (by kernel_rfl) rfl rfl (by kernel_rfl) rfl (ex_x rfl (fun w1 h1 => x_pick_t rfl rfl)) ?_
                refine e_exact 21 _ (by kernel_rfl) rfl rfl (by kernel_rfl) rfl (ex_x rfl (fun w1 h1 => x_as rfl)) ?_
                refine e_done (by kernel_rfl) ?_
                refine l_nil ?_
                refine r_seq ?_
                refine r_region ?_
                refine l_x rfl (x_mv rfl) ?_
                refine l_x rfl (x_not rfl) ?_
                refine l_x rfl (x_mv rfl) ?_
                refine l_x rfl (x_mv rfl) ?_
                refine l_x rfl (x_not rfl) ?_
                refine l_x rfl (x_pick_t rfl rfl) ?_
                refine l_nil ?_
                refine r_if rfl (fun hc85 => ?_) (fun hc85 => ?_)
                · skip
                  have hf74 : q7495 = false := by simpa using hc85
                  refine r_region ?_
                  refine l_x rfl (x_mv rfl) ?_
                  refine l_x rfl (x_mv rfl) ?_
                  refine l_buildSlice EI [_] S96 rfl Try.runUnderlying25 Try.sizeOf3 Try.zeroValue3 rfl ⟨rfl, rfl, trivial⟩ (Nat.le_of_ble_eq_true rfl) ?_
                  intro v103 w100 S101 hl102
                  refine l_append EI S101 4 rfl rfl rfl rfl (vec_rd (S101.at 7 rfl)) Try.underlying25 info3 rfl rfl rfl (by unfold maxLen; rw [List.length_singleton]; omega) (by rw [List.length_singleton]; show _ * 8 ≤ _; omega) ?_
                  intro v107 w104 S105 hk106 hv108
                  refine l_x rfl (x_as rfl) ?_
                  refine l_nil ?_
                  refine r_inBlock ?_
                  refine r_region ?_
                  refine l_x rfl (x_add rfl rfl (by omega)) ?_
                  refine l_x rfl (x_mv rfl) ?_
                  refine l_nil ?_
                  have hs : Stuck arcs x2418 i := fun b m hb hm => by
                    rw [ha] at hb; cases hb
                    rw [hy] at hm; cases hm
                    exact ⟨fun h => hg48 h.1, fun h => absurd (hb7495.symm.trans ((hM7495 _).2 h.2)) (by rw [hf74]; decide)⟩
                  exact IH (i + 1, v107) _ _ (by dsimp only; omega) ⟨rfl, rfl, rfl, rfl, rfl, rfl, trivial⟩ ⟨by omega, (by rw [stk_yes hs]; exact S105.take 5)⟩
                · skip
                  have ht74 : q7495 = true := by simpa using hc85
                  refine r_skip ?_
                  refine r_inBlock ?_
                  refine r_region ?_
                  refine l_x rfl (x_add rfl rfl (by omega)) ?_
                  refine l_x rfl (x_mv rfl) ?_
                  refine l_nil ?_
                  have hs : ¬ Stuck arcs x2418 i := fun hs => (hs a y ha hy).2 ⟨hg69, (hM7495 _).1 (hb7495.trans (congrArg some ht74))⟩
                  exact IH (i + 1, vr) _ _ (by dsimp only; omega) ⟨rfl, rfl, rfl, rfl, rfl, rfl, trivial⟩ ⟨by omega, (by rw [stk_no hs]; exact S96.take 5)⟩
              · skip
                refine e_exact 11 _ (by kernel_rfl) rfl rfl (by kernel_rfl) rfl (ex_pass rfl) ?_
                refine e_exact 12 _ (by kernel_rfl) rfl rfl (by kernel_rfl) rfl (ex_pass rfl) ?_
                refine e_exact 13 _ (by kernel_rfl) rfl rfl (by kernel_rfl) rfl (ex_pass rfl) ?_
                refine e_exact 14 _ (by kernel_rfl) rfl rfl (by kernel_rfl) rfl (ex_pass rfl) ?_
                refine e_exact 15 _ (by kernel_rfl) rfl rfl (by kernel_rfl) rfl (ex_pass rfl) ?_
                refine e_exact 16 _ (by kernel_rfl) rfl rfl (by kernel_rfl) rfl (ex_pass rfl) ?_
                refine e_exact 17 _ (by kernel_rfl) rfl rfl (by kernel_rfl) rfl (ex_pass rfl) ?_
                refine e_exact 18 _ (by kernel_rfl) rfl rfl (by kernel_rfl) rfl (ex_pass rfl) ?_
                refine e_exact 19 _ (by kernel_rfl) rfl rfl (by kernel_rfl) rfl (ex_pass rfl) ?_
                refine e_exact 20 _ (by kernel_rfl) rfl rfl (by kernel_rfl) rfl (ex_x rfl (fun w1 h1 => x_pick_f rfl rfl)) ?_
                refine e_exact 21 _ (by kernel_rfl) rfl rfl (by kernel_rfl) rfl (ex_x rfl (fun w1 h1 => x_as rfl)) ?_
                refine e_done (by kernel_rfl) ?_
                refine l_nil ?_
                refine r_seq ?_
                refine r_region ?_
                refine l_x rfl (x_mv rfl) ?_
                refine l_x rfl (x_not rfl) ?_
                refine l_x rfl (x_mv rfl) ?_
                refine l_x rfl (x_mv rfl) ?_
                refine l_x rfl (x_not rfl) ?_
                refine l_x rfl (x_pick_t rfl rfl) ?_
                refine l_nil ?_
                refine r_true rfl ?_
                refine r_region ?_
                refine l_x rfl (x_mv rfl) ?_
                refine l_x rfl (x_mv rfl) ?_
                refine l_buildSlice EI [_] S91 rfl Try.runUnderlying25 Try.sizeOf3 Try.zeroValue3 rfl ⟨rfl, rfl, trivial⟩ (Nat.le_of_ble_eq_true rfl) ?_
                intro v112 w109 S110 hl111
                refine l_append EI S110 4 rfl rfl rfl rfl (vec_rd (S110.at 6 rfl)) Try.underlying25 info3 rfl rfl rfl (by unfold maxLen; rw [List.length_singleton]; omega) (by rw [List.length_singleton]; show _ * 8 ≤ _; omega) ?_
                intro v116 w113 S114 hk115 hv117
                refine l_x rfl (x_as rfl) ?_
                refine l_nil ?_
                refine r_inBlock ?_
                refine r_region ?_
                refine l_x rfl (x_add rfl rfl (by omega)) ?_
                refine l_x rfl (x_mv rfl) ?_
                refine l_nil ?_
                have hs : Stuck arcs x2418 i := fun b m hb hm => by
                  rw [ha] at hb; cases hb
                  rw [hy] at hm; cases hm
                  exact ⟨fun h => hg48 h.1, fun h => hg69 h.1⟩
                exact IH (i + 1, v116) _ _ (by dsimp only; omega) ⟨rfl, rfl, rfl, rfl, rfl, rfl, trivial⟩ ⟨by omega, (by rw [stk_yes hs]; exact S114.take 5)⟩
          · skip
            have hie : i = arcs.length := by omega
            subst hie
            refine r_exit rfl ?_
            refine r_seq ?_
            refine r_region ?_
            refine l_x rfl (x_mv rfl) ?_
            refine l_x rfl (x_as rfl) ?_
            refine l_x rfl (x_as rfl) ?_
            refine l_nil ?_
            refine r_ret (rs := [.tmp 2, .tmp 3]) [_, _] Try.func60 rfl ⟨rfl, rfl, trivial⟩ ?_
            exact ⟨_, _, _, rfl, S1.new 4 rfl, S1.le, .yes hV hcirc⟩
        · skip
          have S118 := S13.add hl2418 hN2418
          refine ⟨.of_le hl2418, ?_⟩
          have hy119 : Keep (yng w5) w5 w18 := hy17.trans (Keep.of_le hl2418)
          refine e_exact 6 _ (by kernel_rfl) rfl rfl (by kernel_rfl) rfl (ex_x rfl (fun w1 h1 => x_mv rfl)) ?_
          refine e_exact 7 _ (by kernel_rfl) rfl rfl (by kernel_rfl) rfl (ex_x rfl (fun w1 h1 => x_extract rfl rfl)) ?_
          refine e_exact 8 _ (by kernel_rfl) rfl rfl (by kernel_rfl) rfl (ex_x rfl (fun w1 h1 => x_extract rfl rfl)) ?_
          refine e_exact 9 _ (by kernel_rfl) rfl rfl (by kernel_rfl) rfl (ex_x rfl (fun w1 h1 => x_extract rfl rfl)) ?_
          refine e_next [10] (by kernel_rfl) (by kernel_rfl) ⟨⟨_, _, rfl, rfl, ?_⟩, trivial⟩
          refine s_allocY S118 rfl Try.zeroValue43 rfl ?_
          intro b123 w120 S121 hl122 hb124
          refine ⟨.of_le hl122, ?_⟩
          have hy125 : Keep (yng w5) w5 w120 := hy119.trans (Keep.of_le hl122)
          refine e_exact 11 _ (by kernel_rfl) rfl rfl (by kernel_rfl) rfl (ex_x rfl (fun w1 h1 => x_as rfl)) ?_
          refine e_next [12] (by kernel_rfl) (by kernel_rfl) ⟨⟨_, _, rfl, rfl, ?_⟩, trivial⟩
          refine s_stores (vs := [_, _]) S121 3 rfl rfl rfl rfl (ones_cons rfl (ones_cons (Rd.one (vec_rd (S121.at 2 rfl))) ones_nil)) Try.sizeOf43 (by first | exact Nat.le_refl _ | simp) (splice_all rfl) ?_
          intro w126 S127 hk128
          refine ⟨(yng_blk hy119 hb124 hk128), ?_⟩
          have hy129 : Keep (yng w5) w5 w126 := hy125.trans ((yng_blk hy119 hb124 hk128))
          refine e_exact 13 _ (by kernel_rfl) rfl rfl (by kernel_rfl) rfl (ex_x rfl (fun w1 h1 => x_as rfl)) ?_
          refine e_done (by kernel_rfl) ?_
          refine l_nil ?_
          refine r_seq ?_
          refine r_seq ?_
          refine r_region ?_
          refine l_x rfl (x_mv rfl) ?_
          refine l_x rfl (x_not rfl) ?_
          refine l_nil ?_
          refine r_true rfl ?_
          refine r_seq ?_
          refine r_region ?_
          refine l_x rfl (x_as rfl) ?_
          refine l_x rfl (x_as rfl) ?_
          refine l_nil ?_
          refine r_ret (rs := [.tmp 2, .tmp 3]) [_, _] Try.func60 rfl ⟨rfl, rfl, trivial⟩ ?_
          exact ⟨_, _, _, rfl, New.nilvec .., S127.le, .no hV ⟨_, _, hh2418⟩⟩
      · skip
        refine s_allocY S13 rfl Try.zeroValue43 rfl ?_
        intro b133 w130 S131 hl132 hb134
        refine ⟨.of_le hl132, ?_⟩
        have hy135 : Keep (yng w5) w5 w130 := hy17.trans (Keep.of_le hl132)
        refine e_next [5] (by kernel_rfl) (by kernel_rfl) ⟨⟨_, _, rfl, rfl, ?_⟩, trivial⟩
        refine s_callf [] [] [_, _] rfl rfl Try.call71 rfl ((c_best N va arcs _ _ hV (zero_wts arcs) _ (hA.le S131.le) (vec_rd (S131.at 1 rfl))).mono ?_)
        rintro _ w136 (⟨bc24136, vx24136, x24136, mo24136, p24136, rfl, hO24136, hC24136, hmo24136⟩ | ⟨A24136, vn24136, ns24136, rfl, hN24136, hl24136, hh24136⟩)
        · skip
          have S137 := S131.join hO24136
          refine ⟨.of_le hO24136.le, ?_⟩
          have hy138 : Keep (yng w5) w5 w136 := hy135.trans (Keep.of_le hO24136.le)
          refine e_exact 6 _ (by kernel_rfl) rfl rfl (by kernel_rfl) rfl (ex_x rfl (fun w1 h1 => x_mv rfl)) ?_
          refine e_exact 7 _ (by kernel_rfl) rfl rfl (by kernel_rfl) rfl (ex_x rfl (fun w1 h1 => x_extract rfl rfl)) ?_
          refine e_exact 8 _ (by kernel_rfl) rfl rfl (by kernel_rfl) rfl (ex_x rfl (fun w1 h1 => x_extract rfl rfl)) ?_
          refine e_exact 9 _ (by kernel_rfl) rfl rfl (by kernel_rfl) rfl (ex_x rfl (fun w1 h1 => x_extract rfl rfl)) ?_
          refine e_exact 11 _ (by kernel_rfl) rfl rfl (by kernel_rfl) rfl (ex_x rfl (fun w1 h1 => x_as rfl)) ?_
          refine e_next [12] (by kernel_rfl) (by kernel_rfl) ⟨⟨_, _, rfl, rfl, ?_⟩, trivial⟩
          refine s_stores (vs := [_, _]) S137 2 rfl rfl rfl rfl (ones_cons rfl (ones_cons rfl ones_nil)) Try.sizeOf43 (by first | exact Nat.le_refl _ | simp) (splice_all rfl) ?_
          intro w139 S140 hk141
          refine ⟨(yng_blk hy17 hb134 hk141), ?_⟩
          have hy142 : Keep (yng w5) w5 w139 := hy138.trans ((yng_blk hy17 hb134 hk141))
          refine e_exact 13 _ (by kernel_rfl) rfl rfl (by kernel_rfl) rfl (ex_x rfl (fun w1 h1 => x_as rfl)) ?_
          refine e_done (by kernel_rfl) ?_
          refine l_nil ?_
          refine r_seq ?_
          refine r_seq ?_
          refine r_region ?_
          refine l_x rfl (x_mv rfl) ?_
          refine l_x rfl (x_not rfl) ?_
          refine l_nil ?_
          refine r_false rfl ?_
          refine r_skip ?_
          refine r_seq ?_
          have S143 := S140.pick (L' := [_, _, _, _]) [0, 1, 3, 4] (by decide) rfl
          refine r_forget [(1, .pointer (some ⟨b4, 0, none⟩)), (5, .pointer (some ⟨bc24136, 0, none⟩))] ⟨rfl, rfl, trivial⟩ ?_
          intro ρ144
          have hcirc := hC24136.circ hV hmo24136
          have hxl := hcirc.bds.1
          have hNx := hV.max
          have hN1 := hV.pos
          refine r_region ?_
          refine l_x rfl (x_as rfl) ?_
          have S145 := S143.nilvec (E := EI)
          refine l_nil ?_
          refine r_seq ?_
          refine r_seq ?_
          refine r_region ?_
          refine l_x rfl (x_fieldAddr rfl Try.runUnderlying24 rfl Try.sizeOf22 (by decide)) ?_
          refine l_x rfl (x_load rfl (ld_blk (S145.blk 0 rfl) Try.isAgg22 rfl)) ?_
          refine l_x rfl (x_len (hA.le S145.le) rfl Try.runUnderlying22) ?_
          refine l_x rfl (x_mv rfl) ?_
          refine l_nil ?_
          refine r_block ?_
          refine r_loop (G := Nat × Value) (fun ⟨i, vr⟩ => arcs.length - i) (fun ⟨i, vr⟩ => [(1, .pointer (some ⟨b4, 0, none⟩)), (5, .pointer (some ⟨bc24136, 0, none⟩)), (31, va), (32, .int .i64 arcs.length), (33, .int .i64 i), (8, vr)]) (fun ⟨i, vr⟩ w' => (i ≤ arcs.length) ∧ Own nob w w' [blk b4 [.int .i64 N, va] 24, vec EI v15 (List.replicate arcs.length 0), blk bc24136 (carC N va vx24136 v15 mo24136 p24136) 91, vec EI vx24136 x24136, vec EI vr (stk arcs x24136 i)]) (0, .slice none 0 0) ⟨rfl, rfl, rfl, rfl, rfl, rfl, trivial⟩ ⟨Nat.zero_le _, S145⟩ ?_
          rintro ⟨i, vr⟩ ρ w1 ⟨hi, S1⟩ IH
          refine r_seq ?_
          refine r_region ?_
          refine l_x rfl (x_lss rfl rfl) ?_
          refine l_nil ?_
          refine r_seq ?_
          refine r_ifd rfl (fun hc34 => ?_) (fun hc34 => ?_)
          · skip
            obtain ⟨a, ha⟩ : ∃ a, arcs[i]? = some a := ⟨_, List.getElem?_eq_getElem (by omega)⟩
            obtain ⟨y, hy⟩ : ∃ y, x24136[i]? = some y := ⟨_, List.getElem?_eq_getElem (by omega)⟩
            have hok := hV.at ha
            have hsk := stk_len arcs x24136 i
            refine r_skip ?_
            refine r_seq ?_
            refine r_block ?_
            refine r_seq ?_
            refine r_region ?_
            refine l_x rfl (x_mv rfl) ?_
            refine l_index EA rfl (hA.le S1.le) rfl rfl Try.runUnderlying22 Try.sizeOf39 (by omega) ha ?_
            intro b146 o147 hat148 row149
            refine l_x rfl (x_load rfl (ld_row Try.isAgg39 Try.sizeOf39 rfl row149)) ?_
            refine l_alloc S1 rfl Try.zeroValue39 rfl ?_
            intro b153 w150 S151 hl152
            refine l_x rfl (x_as rfl) ?_
            refine l_stores S151 5 rfl rfl rfl rfl (EA.one _) Try.sizeOf39 (by first | exact Nat.le_refl _ | simp) (splice_all rfl) ?_
            intro w154 S155 hk156
            refine l_nil ?_
            refine r_seq ?_
            refine r_drawE 22 nob Try.mixed (by kernel_rfl) ?_
            intro w157 hl158
            have S159 := S155.step hl158
            refine e_exact 0 _ (by kernel_rfl) rfl rfl (by kernel_rfl) rfl (ex_x rfl (fun w1 h1 => x_mv rfl)) ?_
            refine e_exact 1 _ (by kernel_rfl) rfl rfl (by kernel_rfl) rfl (ex_x rfl (fun w1 h1 => x_nilCheck rfl)) ?_
            refine e_exact 2 _ (by kernel_rfl) rfl rfl (by kernel_rfl) rfl (ex_x rfl (fun w1 h1 => x_fieldAddr rfl Try.runUnderlying91 rfl Try.sizeOf25 (by decide))) ?_
            refine e_exact 3 _ (by kernel_rfl) rfl rfl (by kernel_rfl) rfl (ex_x rfl (fun w1 h1 => x_load rfl (ld_blk ((S159.step h1).blk 2 rfl) Try.isAgg25 rfl))) ?_
            refine e_exact 4 _ (by kernel_rfl) rfl rfl (by kernel_rfl) rfl (ex_x rfl (fun w1 h1 => x_mv rfl)) ?_
            refine e_index EI 5 (by kernel_rfl) rfl rfl (by kernel_rfl) rfl rfl (vec_rd (S159.at 3 rfl)) rfl rfl Try.runUnderlying25 Try.sizeOf3 (by omega) hy ?_
            intro b160 o161 hat162
            refine e_exact 6 _ (by kernel_rfl) rfl rfl (by kernel_rfl) rfl (ex_x rfl (fun w1 h1 => x_load rfl (ld_cell Try.isAgg3 ((rd_row (vec_rd ((S159.step h1).at 3 rfl)) hat162 hy) 0 _ rfl)))) ?_
            refine e_exact 7 _ (by kernel_rfl) rfl rfl (by kernel_rfl) rfl (ex_x rfl (fun w1 h1 => x_fieldAddr rfl Try.runUnderlying39 rfl Try.sizeOf3 (by decide))) ?_
            refine e_exact 8 _ (by kernel_rfl) rfl rfl (by kernel_rfl) rfl (ex_x rfl (fun w1 h1 => x_load rfl (ld_blk ((S159.step h1).blk 5 rfl) Try.isAgg3 rfl))) ?_
            refine e_exact 9 _ (by kernel_rfl) rfl rfl (by kernel_rfl) rfl (ex_x rfl (fun w1 h1 => x_lss rfl rfl)) ?_
            refine e_exact 10 _ (by kernel_rfl) rfl rfl (by kernel_rfl) rfl (ex_x rfl (fun w1 h1 => x_mv rfl)) ?_
            refine e_splitd (d := 48) rfl (fun hg48 => ?_) (fun hg48 => ?_)
            · skip
              refine e_exact 11 _ (by kernel_rfl) rfl rfl (by kernel_rfl) rfl (ex_x rfl (fun w1 h1 => x_mv rfl)) ?_
              refine e_exact 12 _ (by kernel_rfl) rfl rfl (by kernel_rfl) rfl (ex_x rfl (fun w1 h1 => x_fieldAddr rfl Try.runUnderlying39 rfl Try.sizeOf3 (by decide))) ?_
              refine e_exact 13 _ (by kernel_rfl) rfl rfl (by kernel_rfl) rfl (ex_x rfl (fun w1 h1 => x_load rfl (ld_blk ((S159.step h1).blk 5 rfl) Try.isAgg3 rfl))) ?_
              refine e_exact 14 _ (by kernel_rfl) rfl rfl (by kernel_rfl) rfl (ex_x rfl (fun w1 h1 => x_mv rfl)) ?_
              refine e_exact 16 _ (by kernel_rfl) rfl rfl (by kernel_rfl) rfl (ex_x rfl (fun w1 h1 => x_fieldAddr rfl Try.runUnderlying39 rfl Try.sizeOf3 (by decide))) ?_
              refine e_exact 17 _ (by kernel_rfl) rfl rfl (by kernel_rfl) rfl (ex_x rfl (fun w1 h1 => x_load rfl (ld_blk ((S159.step h1).blk 5 rfl) Try.isAgg3 rfl))) ?_
              refine e_next [15] (by kernel_rfl) (by kernel_rfl) ⟨⟨_, _, rfl, rfl, ?_⟩, trivial⟩
              refine s_callf [] [] [_, _, _] rfl rfl Try.call106 rfl ((c_reached N va arcs vx24136 x24136 v15 (List.replicate arcs.length 0) mo24136 p24136 hV (hcirc.amts hV) (zero_wts arcs) (fun v => by have := hC24136.pb v; omega) bc24136 _ (i : Int) ⟨by omega, by omega⟩ _ ⟨S159.blk 2 rfl, hA.le S159.le, vec_rd (S159.at 3 rfl), vec_rd (S159.at 1 rfl)⟩).mono ?_)
              rintro v53163 w163 ⟨D53163, hN53163, hl53163, hD53163⟩
              have S164 := S159.add hl53163 hN53163
              refine ⟨.of_le hl53163, ?_⟩
              have hDl53163 := hD53163.len.trans List.length_replicate
              have hM53163 : ∀ u : Nat, D53163[u]? = some true ↔ Rch arcs x24136 (i : Int) a.dst.toNat u := fun u => (hD53163.all u).trans (Go'.rch hV List.length_replicate)
              obtain ⟨q53163, hb53163⟩ : ∃ q, D53163[a.src.toNat]? = some q := ⟨_, List.getElem?_eq_getElem (by omega)⟩
              refine e_index EB 18 (by kernel_rfl) rfl rfl (by kernel_rfl) rfl rfl (vec_rd (S164.at 6 rfl)) rfl rfl Try.runUnderlying101 Try.sizeOf4 (by omega) (by first | assumption | exact List.getElem?_eq_getElem (by omega)) ?_
              intro b165 o166 hat167
              refine e_exact 19 _ (by kernel_rfl) rfl rfl (by kernel_rfl) rfl (ex_x rfl (fun w1 h1 => x_load rfl (ld_cell Try.isAgg4 ((rd_row (vec_rd ((S164.step h1).at 6 rfl)) hat167 (by first | assumption | exact List.getElem?_eq_getElem (by omega))) 0 _ rfl)))) ?_
              refine e_exact 20 _ (by kernel_rfl) rfl rfl (by kernel_rfl) rfl (ex_x rfl (fun w1 h1 => x_pick_t rfl rfl)) ?_
              refine e_exact 21 _ (by kernel_rfl) rfl rfl (by kernel_rfl) rfl (ex_x rfl (fun w1 h1 => x_as rfl)) ?_
              refine e_done (by kernel_rfl) ?_
              refine l_nil ?_
              refine r_seq ?_
              have S168 := S164.pick (L' := [_, _, _, _, _, _]) [0, 1, 2, 3, 4, 5] (by decide) rfl
              refine r_forget [(1, .pointer (some ⟨b4, 0, none⟩)), (5, .pointer (some ⟨bc24136, 0, none⟩)), (9, .int .i64 i), (10, .pointer (some ⟨b153, 0, none⟩)), (11, .bool q53163), (31, va), (32, .int .i64 arcs.length), (33, .int .i64 i), (8, vr)] ⟨rfl, rfl, rfl, rfl, rfl, rfl, rfl, rfl, rfl, trivial⟩ ?_
              intro ρ169
              refine r_drawE 22 nob Try.mixed (by kernel_rfl) ?_
              intro w170 hl171
              have S172 := S168.step hl171
              refine e_exact 0 _ (by kernel_rfl) rfl rfl (by kernel_rfl) rfl (ex_x rfl (fun w1 h1 => x_mv rfl)) ?_
              refine e_exact 1 _ (by kernel_rfl) rfl rfl (by kernel_rfl) rfl (ex_x rfl (fun w1 h1 => x_nilCheck rfl)) ?_
              refine e_exact 2 _ (by kernel_rfl) rfl rfl (by kernel_rfl) rfl (ex_x rfl (fun w1 h1 => x_fieldAddr rfl Try.runUnderlying91 rfl Try.sizeOf25 (by decide))) ?_
              refine e_exact 3 _ (by kernel_rfl) rfl rfl (by kernel_rfl) rfl (ex_x rfl (fun w1 h1 => x_load rfl (ld_blk ((S172.step h1).blk 2 rfl) Try.isAgg25 rfl))) ?_
              refine e_exact 4 _ (by kernel_rfl) rfl rfl (by kernel_rfl) rfl (ex_x rfl (fun w1 h1 => x_mv rfl)) ?_
              refine e_index EI 5 (by kernel_rfl) rfl rfl (by kernel_rfl) rfl rfl (vec_rd (S172.at 3 rfl)) rfl rfl Try.runUnderlying25 Try.sizeOf3 (by omega) hy ?_
              intro b173 o174 hat175
              refine e_exact 6 _ (by kernel_rfl) rfl rfl (by kernel_rfl) rfl (ex_x rfl (fun w1 h1 => x_load rfl (ld_cell Try.isAgg3 ((rd_row (vec_rd ((S172.step h1).at 3 rfl)) hat175 hy) 0 _ rfl)))) ?_
              refine e_exact 7 _ (by kernel_rfl) rfl rfl (by kernel_rfl) rfl (ex_x rfl (fun w1 h1 => x_fieldAddr rfl Try.runUnderlying39 rfl Try.sizeOf3 (by decide))) ?_
              refine e_exact 8 _ (by kernel_rfl) rfl rfl (by kernel_rfl) rfl (ex_x rfl (fun w1 h1 => x_load rfl (ld_blk ((S172.step h1).blk 5 rfl) Try.isAgg3 rfl))) ?_
              refine e_exact 9 _ (by kernel_rfl) rfl rfl (by kernel_rfl) rfl (ex_x rfl (fun w1 h1 => x_gtr rfl rfl)) ?_
              refine e_exact 10 _ (by kernel_rfl) rfl rfl (by kernel_rfl) rfl (ex_x rfl (fun w1 h1 => x_mv rfl)) ?_
              refine e_splitd (d := 69) rfl (fun hg69 => ?_) (fun hg69 => ?_)
              · skip
                refine e_exact 11 _ (by kernel_rfl) rfl rfl (by kernel_rfl) rfl (ex_x rfl (fun w1 h1 => x_mv rfl)) ?_
                refine e_exact 12 _ (by kernel_rfl) rfl rfl (by kernel_rfl) rfl (ex_x rfl (fun w1 h1 => x_fieldAddr rfl Try.runUnderlying39 rfl Try.sizeOf3 (by decide))) ?_
                refine e_exact 13 _ (by kernel_rfl) rfl rfl (by kernel_rfl) rfl (ex_x rfl (fun w1 h1 => x_load rfl (ld_blk ((S172.step h1).blk 5 rfl) Try.isAgg3 rfl))) ?_
                refine e_exact 14 _ (by kernel_rfl) rfl rfl (by kernel_rfl) rfl (ex_x rfl (fun w1 h1 => x_mv rfl)) ?_
                refine e_exact 16 _ (by kernel_rfl) rfl rfl (by kernel_rfl) rfl (ex_x rfl (fun w1 h1 => x_fieldAddr rfl Try.runUnderlying39 rfl Try.sizeOf3 (by decide))) ?_
                refine e_exact 17 _ (by kernel_rfl) rfl rfl (by kernel_rfl) rfl (ex_x rfl (fun w1 h1 => x_load rfl (ld_blk ((S172.step h1).blk 5 rfl) Try.isAgg3 rfl))) ?_
                refine e_next [15] (by kernel_rfl) (by kernel_rfl) ⟨⟨_, _, rfl, rfl, ?_⟩, trivial⟩
                refine s_callf [] [] [_, _, _] rfl rfl Try.call106 rfl ((c_reached N va arcs vx24136 x24136 v15 (List.replicate arcs.length 0) mo24136 p24136 hV (hcirc.amts hV) (zero_wts arcs) (fun v => by have := hC24136.pb v; omega) bc24136 _ (i : Int) ⟨by omega, by omega⟩ _ ⟨S172.blk 2 rfl, hA.le S172.le, vec_rd (S172.at 3 rfl), vec_rd (S172.at 1 rfl)⟩).mono ?_)
                rintro v74176 w176 ⟨D74176, hN74176, hl74176, hD74176⟩
                have S177 := S172.add hl74176 hN74176
                refine ⟨.of_le hl74176, ?_⟩
                have hDl74176 := hD74176.len.trans List.length_replicate
                have hM74176 : ∀ u : Nat, D74176[u]? = some true ↔ Rch arcs x24136 (i : Int) a.src.toNat u := fun u => (hD74176.all u).trans (Go'.rch hV List.length_replicate)
                obtain ⟨q74176, hb74176⟩ : ∃ q, D74176[a.dst.toNat]? = some q := ⟨_, List.getElem?_eq_getElem (by omega)⟩
                refine e_index EB 18 (by kernel_rfl) rfl rfl (by kernel_rfl) rfl rfl (vec_rd (S177.at 6 rfl)) rfl rfl Try.runUnderlying101 Try.sizeOf4 (by omega) (by first | assumption | exact List.getElem?_eq_getElem (by omega)) ?_
                intro b178 o179 hat180
                refine e_exact 19 _ (by kernel_rfl) rfl rfl (by kernel_rfl) rfl (ex_x rfl (fun w1 h1 => x_load rfl (ld_cell Try.isAgg4 ((rd_row (vec_rd ((S177.step h1).at 6 rfl)) hat180 (by first | assumption | exact List.getElem?_eq_getElem (by omega))) 0 _ rfl)))) ?_
                refine e_exact 20 _ (by kernel_rfl) rfl rfl (by kernel_rfl) rfl (ex_x rfl (fun w1 h1 => x_pick_t rfl rfl)) ?_
                refine e_exact 21 _ (by kernel_rfl) rfl rfl (by kernel_rfl) rfl (ex_x rfl (fun w1 h1 => x_as rfl)) ?_
                refine e_done (by kernel_rfl) ?_
                refine l_nil ?_
                refine r_seq ?_
                refine r_region ?_
                refine l_x rfl (x_mv rfl) ?_
                refine l_x rfl (x_not rfl) ?_
                refine l_x rfl (x_mv rfl) ?_
                refine l_split (d := 82) rfl (fun hg82 => ?_) (fun hg82 => ?_)
                · skip
                  have hf53 : q53163 = false := by simpa using hg82
                  refine l_x rfl (x_mv rfl) ?_
                  refine l_x rfl (x_not rfl) ?_
                  refine l_x rfl (x_pick_t rfl rfl) ?_
                  refine l_nil ?_
                  refine r_if rfl (fun hc85 => ?_) (fun hc85 => ?_)
                  · skip
                    have hf74 : q74176 = false := by simpa using hc85
                    refine r_region ?_
                    refine l_x rfl (x_mv rfl) ?_
                    refine l_x rfl (x_mv rfl) ?_
                    refine l_buildSlice EI [_] S177 rfl Try.runUnderlying25 Try.sizeOf3 Try.zeroValue3 rfl ⟨rfl, rfl, trivial⟩ (Nat.le_of_ble_eq_true rfl) ?_
                    intro v184 w181 S182 hl183
                    refine l_append EI S182 4 rfl rfl rfl rfl (vec_rd (S182.at 7 rfl)) Try.underlying25 info3 rfl rfl rfl (by unfold maxLen; rw [List.length_singleton]; omega) (by rw [List.length_singleton]; show _ * 8 ≤ _; omega) ?_
                    intro v188 w185 S186 hk187 hv189
                    refine l_x rfl (x_as rfl) ?_
                    refine l_nil ?_
                    refine r_inBlock ?_
                    refine r_region ?_
                    refine l_x rfl (x_add rfl rfl (by omega)) ?_
                    refine l_x rfl (x_mv rfl) ?_
                    refine l_nil ?_
                    have hs : Stuck arcs x24136 i := fun b m hb hm => by
                      rw [ha] at hb; cases hb
                      rw [hy] at hm; cases hm
                      exact ⟨fun h => absurd (hb53163.symm.trans ((hM53163 _).2 h.2)) (by rw [hf53]; decide), fun h => absurd (hb74176.symm.trans ((hM74176 _).2 h.2)) (by rw [hf74]; decide)⟩
                    exact IH (i + 1, v188) _ _ (by dsimp only; omega) ⟨rfl, rfl, rfl, rfl, rfl, rfl, trivial⟩ ⟨by omega, (by rw [stk_yes hs]; exact S186.take 5)⟩
                  · skip
                    have ht74 : q74176 = true := by simpa using hc85
                    refine r_skip ?_
                    refine r_inBlock ?_
                    refine r_region ?_
                    refine l_x rfl (x_add rfl rfl (by omega)) ?_
                    refine l_x rfl (x_mv rfl) ?_
                    refine l_nil ?_
                    have hs : ¬ Stuck arcs x24136 i := fun hs => (hs a y ha hy).2 ⟨hg69, (hM74176 _).1 (hb74176.trans (congrArg some ht74))⟩
                    exact IH (i + 1, vr) _ _ (by dsimp only; omega) ⟨rfl, rfl, rfl, rfl, rfl, rfl, trivial⟩ ⟨by omega, (by rw [stk_no hs]; exact S177.take 5)⟩
                · skip
                  have ht53 : q53163 = true := by simpa using hg82
                  refine l_pass rfl ?_
                  refine l_pass rfl ?_
                  refine l_x rfl (x_pick_f rfl rfl) ?_
                  refine l_nil ?_
                  refine r_false rfl ?_
                  refine r_skip ?_
                  refine r_inBlock ?_
                  refine r_region ?_
                  refine l_x rfl (x_add rfl rfl (by omega)) ?_
                  refine l_x rfl (x_mv rfl) ?_
                  refine l_nil ?_
                  have hs : ¬ Stuck arcs x24136 i := fun hs => (hs a y ha hy).1 ⟨hg48, (hM53163 _).1 (hb53163.trans (congrArg some ht53))⟩
                  exact IH (i + 1, vr) _ _ (by dsimp only; omega) ⟨rfl, rfl, rfl, rfl, rfl, rfl, trivial⟩ ⟨by omega, (by rw [stk_no hs]; exact S177.take 5)⟩
              · skip
                refine e_exact 11 _ (by kernel_rfl) rfl rfl (by kernel_rfl) rfl (ex_pass rfl) ?_
                refine e_exact 12 _ (by kernel_rfl) rfl rfl (by kernel_rfl) rfl (ex_pass rfl) ?_
                refine e_exact 13 _ (by kernel_rfl) rfl rfl (by kernel_rfl) rfl (ex_pass rfl) ?_
                refine e_exact 14 _ (by kernel_rfl) rfl rfl (by kernel_rfl) rfl (ex_pass rfl) ?_
                refine e_exact 15 _ (by kernel_rfl) rfl rfl (by kernel_rfl) rfl (ex_pass rfl) ?_
                refine e_exact 16 _ (by kernel_rfl) rfl rfl (by kernel_rfl) rfl (ex_pass rfl) ?_
                refine e_exact 17 _ (by kernel_rfl) rfl rfl (by kernel_rfl) rfl (ex_pass rfl) ?_
                refine e_exact 18 _ (by kernel_rfl) rfl rfl (by kernel_rfl) rfl (ex_pass rfl) ?_
                refine e_exact 19 _ (by kernel_rfl) rfl rfl (by kernel_rfl) rfl (ex_pass rfl) ?_
                refine e_exact 20 _ (by kernel_rfl) rfl rfl (by kernel_rfl) rfl (ex_x rfl (fun w1 h1 => x_pick_f rfl rfl)) ?_
                refine e_exact 21 _ (by kernel_rfl) rfl rfl (by kernel_rfl) rfl (ex_x rfl (fun w1 h1 => x_as rfl)) ?_
                refine e_done (by kernel_rfl) ?_
                refine l_nil ?_
                refine r_seq ?_
                refine r_region ?_
                refine l_x rfl (x_mv rfl) ?_
                refine l_x rfl (x_not rfl) ?_
                refine l_x rfl (x_mv rfl) ?_
                refine l_split (d := 82) rfl (fun hg82 => ?_) (fun hg82 => ?_)
                · skip
                  have hf53 : q53163 = false := by simpa using hg82
                  refine l_x rfl (x_mv rfl) ?_
                  refine l_x rfl (x_not rfl) ?_
                  refine l_x rfl (x_pick_t rfl rfl) ?_
                  refine l_nil ?_
                  refine r_true rfl ?_
                  refine r_region ?_
                  refine l_x rfl (x_mv rfl) ?_
                  refine l_x rfl (x_mv rfl) ?_
                  refine l_buildSlice EI [_] S172 rfl Try.runUnderlying25 Try.sizeOf3 Try.zeroValue3 rfl ⟨rfl, rfl, trivial⟩ (Nat.le_of_ble_eq_true rfl) ?_
                  intro v193 w190 S191 hl192
                  refine l_append EI S191 4 rfl rfl rfl rfl (vec_rd (S191.at 6 rfl)) Try.underlying25 info3 rfl rfl rfl (by unfold maxLen; rw [List.length_singleton]; omega) (by rw [List.length_singleton]; show _ * 8 ≤ _; omega) ?_
                  intro v197 w194 S195 hk196 hv198
                  refine l_x rfl (x_as rfl) ?_
                  refine l_nil ?_
                  refine r_inBlock ?_
                  refine r_region ?_
                  refine l_x rfl (x_add rfl rfl (by omega)) ?_
                  refine l_x rfl (x_mv rfl) ?_
                  refine l_nil ?_
                  have hs : Stuck arcs x24136 i := fun b m hb hm => by
                    rw [ha] at hb; cases hb
                    rw [hy] at hm; cases hm
                    exact ⟨fun h => absurd (hb53163.symm.trans ((hM53163 _).2 h.2)) (by rw [hf53]; decide), fun h => hg69 h.1⟩
                  exact IH (i + 1, v197) _ _ (by dsimp only; omega) ⟨rfl, rfl, rfl, rfl, rfl, rfl, trivial⟩ ⟨by omega, (by rw [stk_yes hs]; exact S195.take 5)⟩
                · skip
                  have ht53 : q53163 = true := by simpa using hg82
                  refine l_pass rfl ?_
                  refine l_pass rfl ?_
                  refine l_x rfl (x_pick_f rfl rfl) ?_
                  refine l_nil ?_
                  refine r_false rfl ?_
                  refine r_skip ?_
                  refine r_inBlock ?_
                  refine r_region ?_
                  refine l_x rfl (x_add rfl rfl (by omega)) ?_
                  refine l_x rfl (x_mv rfl) ?_
                  refine l_nil ?_
                  have hs : ¬ Stuck arcs x24136 i := fun hs => (hs a y ha hy).1 ⟨hg48, (hM53163 _).1 (hb53163.trans (congrArg some ht53))⟩
                  exact IH (i + 1, vr) _ _ (by dsimp only; omega) ⟨rfl, rfl, rfl, rfl, rfl, rfl, trivial⟩ ⟨by omega, (by rw [stk_no hs]; exact S172.take 5)⟩
            · skip
              refine e_exact 11 _ (by kernel_rfl) rfl rfl (by kernel_rfl) rfl (ex_pass rfl) ?_
              refine e_exact 12 _ (by kernel_rfl) rfl rfl (by kernel_rfl) rfl (ex_pass rfl) ?_
              refine e_exact 13 _ (by kernel_rfl) rfl rfl (by kernel_rfl) rfl (ex_pass rfl) ?_
              refine e_exact 14 _ (by kernel_rfl) rfl rfl (by kernel_rfl) rfl (ex_pass rfl) ?_
              refine e_exact 15 _ (by kernel_rfl) rfl rfl (by kernel_rfl) rfl (ex_pass rfl) ?_
              refine e_exact 16 _ (by kernel_rfl) rfl rfl (by kernel_rfl) rfl (ex_pass rfl) ?_
              refine e_exact 17 _ (by kernel_rfl) rfl rfl (by kernel_rfl) rfl (ex_pass rfl) ?_
              refine e_exact 18 _ (by kernel_rfl) rfl rfl (by kernel_rfl) rfl (ex_pass rfl) ?_
              refine e_exact 19 _ (by kernel_rfl) rfl rfl (by kernel_rfl) rfl (ex_pass rfl) ?_
              refine e_exact 20 _ (by kernel_rfl) rfl rfl (by kernel_rfl) rfl (ex_x rfl (fun w1 h1 => x_pick_f rfl rfl)) ?_
              refine e_exact 21 _ (by kernel_rfl) rfl rfl (by kernel_rfl) rfl (ex_x rfl (fun w1 h1 => x_as rfl)) ?_
              refine e_done (by kernel_rfl) ?_
              refine l_nil ?_
              refine r_seq ?_
              have S199 := S159.pick (L' := [_, _, _, _, _, _]) [0, 1, 2, 3, 4, 5] (by decide) rfl
              refine r_forget [(1, .pointer (some ⟨b4, 0, none⟩)), (5, .pointer (some ⟨bc24136, 0, none⟩)), (9, .int .i64 i), (10, .pointer (some ⟨b153, 0, none⟩)), (11, .bool false), (31, va), (32, .int .i64 arcs.length), (33, .int .i64 i), (8, vr)] ⟨rfl, rfl, rfl, rfl, rfl, rfl, rfl, rfl, rfl, trivial⟩ ?_
              intro ρ200
              refine r_drawE 22 nob Try.mixed (by kernel_rfl) ?_
              intro w201 hl202
              have S203 := S199.step hl202
              refine e_exact 0 _ (by kernel_rfl) rfl rfl (by kernel_rfl) rfl (ex_x rfl (fun w1 h1 => x_mv rfl)) ?_
              refine e_exact 1 _ (by kernel_rfl) rfl rfl (by kernel_rfl) rfl (ex_x rfl (fun w1 h1 => x_nilCheck rfl)) ?_
              refine e_exact 2 _ (by kernel_rfl) rfl rfl (by kernel_rfl) rfl (ex_x rfl (fun w1 h1 => x_fieldAddr rfl Try.runUnderlying91 rfl Try.sizeOf25 (by decide))) ?_
              refine e_exact 3 _ (by kernel_rfl) rfl rfl (by kernel_rfl) rfl (ex_x rfl (fun w1 h1 => x_load rfl (ld_blk ((S203.step h1).blk 2 rfl) Try.isAgg25 rfl))) ?_
              refine e_exact 4 _ (by kernel_rfl) rfl rfl (by kernel_rfl) rfl (ex_x rfl (fun w1 h1 => x_mv rfl)) ?_
              refine e_index EI 5 (by kernel_rfl) rfl rfl (by kernel_rfl) rfl rfl (vec_rd (S203.at 3 rfl)) rfl rfl Try.runUnderlying25 Try.sizeOf3 (by omega) hy ?_
              intro b204 o205 hat206
              refine e_exact 6 _ (by kernel_rfl) rfl rfl (by kernel_rfl) rfl (ex_x rfl (fun w1 h1 => x_load rfl (ld_cell Try.isAgg3 ((rd_row (vec_rd ((S203.step h1).at 3 rfl)) hat206 hy) 0 _ rfl)))) ?_
              refine e_exact 7 _ (by kernel_rfl) rfl rfl (by kernel_rfl) rfl (ex_x rfl (fun w1 h1 => x_fieldAddr rfl Try.runUnderlying39 rfl Try.sizeOf3 (by decide))) ?_
              refine e_exact 8 _ (by kernel_rfl) rfl rfl (by kernel_rfl) rfl (ex_x rfl (fun w1 h1 => x_load rfl (ld_blk ((S203.step h1).blk 5 rfl) Try.isAgg3 rfl))) ?_
              refine e_exact 9 _ (by kernel_rfl) rfl rfl (by kernel_rfl) rfl (ex_x rfl (fun w1 h1 => x_gtr rfl rfl)) ?_
              refine e_exact 10 _ (by kernel_rfl) rfl rfl (by kernel_rfl) rfl (ex_x rfl (fun w1 h1 => x_mv rfl)) ?_
              refine e_splitd (d := 69) rfl (fun hg69 => ?_) (fun hg69 => ?_)
              · skip
                refine e_exact 11 _ (by kernel_rfl) rfl rfl (by kernel_rfl) rfl (ex_x rfl (fun w1 h1 => x_mv rfl)) ?_
                refine e_exact 12 _ (by kernel_rfl) rfl rfl (by kernel_rfl) rfl (ex_x rfl (fun w1 h1 => x_fieldAddr rfl Try.runUnderlying39 rfl Try.sizeOf3 (by decide))) ?_
                refine e_exact 13 _ (by kernel_rfl) rfl rfl (by kernel_rfl) rfl (ex_x rfl (fun w1 h1 => x_load rfl (ld_blk ((S203.step h1).blk 5 rfl) Try.isAgg3 rfl))) ?_
                refine e_exact 14 _ (by kernel_rfl) rfl rfl (by kernel_rfl) rfl (ex_x rfl (fun w1 h1 => x_mv rfl)) ?_
                refine e_exact 16 _ (by kernel_rfl) rfl rfl (by kernel_rfl) rfl (ex_x rfl (fun w1 h1 => x_fieldAddr rfl Try.runUnderlying39 rfl Try.sizeOf3 (by decide))) ?_
                refine e_exact 17 _ (by kernel_rfl) rfl rfl (by kernel_rfl) rfl (ex_x rfl (fun w1 h1 => x_load rfl (ld_blk ((S203.step h1).blk 5 rfl) Try.isAgg3 rfl))) ?_
                refine e_next [15] (by kernel_rfl) (by kernel_rfl) ⟨⟨_, _, rfl, rfl, ?_⟩, trivial⟩
                refine s_callf [] [] [_, _, _] rfl rfl Try.call106 rfl ((c_reached N va arcs vx24136 x24136 v15 (List.replicate arcs.length 0) mo24136 p24136 hV (hcirc.amts hV) (zero_wts arcs) (fun v => by have := hC24136.pb v; omega) bc24136 _ (i : Int) ⟨by omega, by omega⟩ _ ⟨S203.blk 2 rfl, hA.le S203.le, vec_rd (S203.at 3 rfl), vec_rd (S203.at 1 rfl)⟩).mono ?_)
                rintro v74207 w207 ⟨D74207, hN74207, hl74207, hD74207⟩
                have S208 := S203.add hl74207 hN74207
                refine ⟨.of_le hl74207, ?_⟩
                have hDl74207 := hD74207.len.trans List.length_replicate
                have hM74207 : ∀ u : Nat, D74207[u]? = some true ↔ Rch arcs x24136 (i : Int) a.src.toNat u := fun u => (hD74207.all u).trans (Go'.rch hV List.length_replicate)
                obtain ⟨q74207, hb74207⟩ : ∃ q, D74207[a.dst.toNat]? = some q := ⟨_, List.getElem?_eq_getElem (by omega)⟩
                refine e_index EB 18 (by kernel_rfl) rfl rfl (by kernel_rfl) rfl rfl (vec_rd (S208.at 6 rfl)) rfl rfl Try.runUnderlying101 Try.sizeOf4 (by omega) (by first | assumption | exact List.getElem?_eq_getElem (by omega)) ?_
                intro b209 o210 hat211
                refine e_exact 19 _ (by kernel_rfl) rfl rfl (by kernel_rfl) rfl (ex_x rfl (fun w1 h1 => x_load rfl (ld_cell Try.isAgg4 ((rd_row (vec_rd ((S208.step h1).at 6 rfl)) hat211 (by first | assumption | exact List.getElem?_eq_getElem (by omega))) 0 _ rfl)))) ?_
                refine e_exact 20 _ (by kernel_rfl) rfl rfl (by kernel_rfl) rfl (ex_x rfl (fun w1 h1 => x_pick_t rfl rfl)) ?_
                refine e_exact 21 _ (by kernel_rfl) rfl rfl (by kernel_rfl) rfl (ex_x rfl (fun w1 h1 => x_as rfl)) ?_
                refine e_done (by kernel_rfl) ?_
                refine l_nil ?_
                refine r_seq ?_
                refine r_region ?_
                refine l_x rfl (x_mv rfl) ?_
                refine l_x rfl (x_not rfl) ?_
                refine l_x rfl (x_mv rfl) ?_
                refine l_x rfl (x_mv rfl) ?_
                refine l_x rfl (x_not rfl) ?_
                refine l_x rfl (x_pick_t rfl rfl) ?_
                refine l_nil ?_
                refine r_if rfl (fun hc85 => ?_) (fun hc85 => ?_)
                · skip
                  have hf74 : q74207 = false := by simpa using hc85
                  refine r_region ?_
                  refine l_x rfl (x_mv rfl) ?_
                  refine l_x rfl (x_mv rfl) ?_
                  refine l_buildSlice EI [_] S208 rfl Try.runUnderlying25 Try.sizeOf3 Try.zeroValue3 rfl ⟨rfl, rfl, trivial⟩ (Nat.le_of_ble_eq_true rfl) ?_
                  intro v215 w212 S213 hl214
                  refine l_append EI S213 4 rfl rfl rfl rfl (vec_rd (S213.at 7 rfl)) Try.underlying25 info3 rfl rfl rfl (by unfold maxLen; rw [List.length_singleton]; omega) (by rw [List.length_singleton]; show _ * 8 ≤ _; omega) ?_
                  intro v219 w216 S217 hk218 hv220
                  refine l_x rfl (x_as rfl) ?_
                  refine l_nil ?_
                  refine r_inBlock ?_
                  refine r_region ?_
                  refine l_x rfl (x_add rfl rfl (by omega)) ?_
                  refine l_x rfl (x_mv rfl) ?_
                  refine l_nil ?_
                  have hs : Stuck arcs x24136 i := fun b m hb hm => by
                    rw [ha] at hb; cases hb
                    rw [hy] at hm; cases hm
                    exact ⟨fun h => hg48 h.1, fun h => absurd (hb74207.symm.trans ((hM74207 _).2 h.2)) (by rw [hf74]; decide)⟩
                  exact IH (i + 1, v219) _ _ (by dsimp only; omega) ⟨rfl, rfl, rfl, rfl, rfl, rfl, trivial⟩ ⟨by omega, (by rw [stk_yes hs]; exact S217.take 5)⟩
                · skip
                  have ht74 : q74207 = true := by simpa using hc85
                  refine r_skip ?_
                  refine r_inBlock ?_
                  refine r_region ?_
                  refine l_x rfl (x_add rfl rfl (by omega)) ?_
                  refine l_x rfl (x_mv rfl) ?_
                  refine l_nil ?_
                  have hs : ¬ Stuck arcs x24136 i := fun hs => (hs a y ha hy).2 ⟨hg69, (hM74207 _).1 (hb74207.trans (congrArg some ht74))⟩
                  exact IH (i + 1, vr) _ _ (by dsimp only; omega) ⟨rfl, rfl, rfl, rfl, rfl, rfl, trivial⟩ ⟨by omega, (by rw [stk_no hs]; exact S208.take 5)⟩
              · skip
                refine e_exact 11 _ (by kernel_rfl) rfl rfl (by kernel_rfl) rfl (ex_pass rfl) ?_
                refine e_exact 12 _ (by kernel_rfl) rfl rfl (by kernel_rfl) rfl (ex_pass rfl) ?_
                refine e_exact 13 _ (by kernel_rfl) rfl rfl (by kernel_rfl) rfl (ex_pass rfl) ?_
                refine e_exact 14 _ (by kernel_rfl) rfl rfl (by kernel_rfl) rfl (ex_pass rfl) ?_
                refine e_exact 15 _ (by kernel_rfl) rfl rfl (by kernel_rfl) rfl (ex_pass rfl) ?_
                refine e_exact 16 _ (by kernel_rfl) rfl rfl (by kernel_rfl) rfl (ex_pass rfl) ?_
                refine e_exact 17 _ (by kernel_rfl) rfl rfl (by kernel_rfl) rfl (ex_pass rfl) ?_
                refine e_exact 18 _ (by kernel_rfl) rfl rfl (by kernel_rfl) rfl (ex_pass rfl) ?_
                refine e_exact 19 _ (by kernel_rfl) rfl rfl (by kernel_rfl) rfl (ex_pass rfl) ?_
                refine e_exact 20 _ (by kernel_rfl) rfl rfl (by kernel_rfl) rfl (ex_x rfl (fun w1 h1 => x_pick_f rfl rfl)) ?_
                refine e_exact 21 _ (by kernel_rfl) rfl rfl (by kernel_rfl) rfl (ex_x rfl (fun w1 h1 => x_as rfl)) ?_
                refine e_done (by kernel_rfl) ?_
                refine l_nil ?_
                refine r_seq ?_
                refine r_region ?_
                refine l_x rfl (x_mv rfl) ?_
                refine l_x rfl (x_not rfl) ?_
                refine l_x rfl (x_mv rfl) ?_
                refine l_x rfl (x_mv rfl) ?_
                refine l_x rfl (x_not rfl) ?_
                refine l_x rfl (x_pick_t rfl rfl) ?_
                refine l_nil ?_
                refine r_true rfl ?_
                refine r_region ?_
                refine l_x rfl (x_mv rfl) ?_
                refine l_x rfl (x_mv rfl) ?_
                refine l_buildSlice EI [_] S203 rfl Try.runUnderlying25 Try.sizeOf3 Try.zeroValue3 rfl ⟨rfl, rfl, trivial⟩ (Nat.le_of_ble_eq_true rfl) ?_
                intro v224 w221 S222 hl223
                refine l_append EI S222 4 rfl rfl rfl rfl (vec_rd (S222.at 6 rfl)) Try.underlying25 info3 rfl rfl rfl (by unfold maxLen; rw [List.length_singleton]; omega) (by rw [List.length_singleton]; show _ * 8 ≤ _; omega) ?_
                intro v228 w225 S226 hk227 hv229
                refine l_x rfl (x_as rfl) ?_
                refine l_nil ?_
                refine r_inBlock ?_
                refine r_region ?_
                refine l_x rfl (x_add rfl rfl (by omega)) ?_
                refine l_x rfl (x_mv rfl) ?_
                refine l_nil ?_
                have hs : Stuck arcs x24136 i := fun b m hb hm => by
                  rw [ha] at hb; cases hb
                  rw [hy] at hm; cases hm
                  exact ⟨fun h => hg48 h.1, fun h => hg69 h.1⟩
                exact IH (i + 1, v228) _ _ (by dsimp only; omega) ⟨rfl, rfl, rfl, rfl, rfl, rfl, trivial⟩ ⟨by omega, (by rw [stk_yes hs]; exact S226.take 5)⟩
          · skip
            have hie : i = arcs.length := by omega
            subst hie
            refine r_exit rfl ?_
            refine r_seq ?_
            refine r_region ?_
            refine l_x rfl (x_mv rfl) ?_
            refine l_x rfl (x_as rfl) ?_
            refine l_x rfl (x_as rfl) ?_
            refine l_nil ?_
            refine r_ret (rs := [.tmp 2, .tmp 3]) [_, _] Try.func60 rfl ⟨rfl, rfl, trivial⟩ ?_
            exact ⟨_, _, _, rfl, S1.new 4 rfl, S1.le, .yes hV hcirc⟩
        · skip
          have S230 := S131.add hl24136 hN24136
          refine ⟨.of_le hl24136, ?_⟩
          have hy231 : Keep (yng w5) w5 w136 := hy135.trans (Keep.of_le hl24136)
          refine e_exact 6 _ (by kernel_rfl) rfl rfl (by kernel_rfl) rfl (ex_x rfl (fun w1 h1 => x_mv rfl)) ?_
          refine e_exact 7 _ (by kernel_rfl) rfl rfl (by kernel_rfl) rfl (ex_x rfl (fun w1 h1 => x_extract rfl rfl)) ?_
          refine e_exact 8 _ (by kernel_rfl) rfl rfl (by kernel_rfl) rfl (ex_x rfl (fun w1 h1 => x_extract rfl rfl)) ?_
          refine e_exact 9 _ (by kernel_rfl) rfl rfl (by kernel_rfl) rfl (ex_x rfl (fun w1 h1 => x_extract rfl rfl)) ?_
          refine e_exact 11 _ (by kernel_rfl) rfl rfl (by kernel_rfl) rfl (ex_x rfl (fun w1 h1 => x_as rfl)) ?_
          refine e_next [12] (by kernel_rfl) (by kernel_rfl) ⟨⟨_, _, rfl, rfl, ?_⟩, trivial⟩
          refine s_stores (vs := [_, _]) S230 2 rfl rfl rfl rfl (ones_cons rfl (ones_cons (Rd.one (vec_rd (S230.at 3 rfl))) ones_nil)) Try.sizeOf43 (by first | exact Nat.le_refl _ | simp) (splice_all rfl) ?_
          intro w232 S233 hk234
          refine ⟨(yng_blk hy17 hb134 hk234), ?_⟩
          have hy235 : Keep (yng w5) w5 w232 := hy231.trans ((yng_blk hy17 hb134 hk234))
          refine e_exact 13 _ (by kernel_rfl) rfl rfl (by kernel_rfl) rfl (ex_x rfl (fun w1 h1 => x_as rfl)) ?_
          refine e_done (by kernel_rfl) ?_
          refine l_nil ?_
          refine r_seq ?_
          refine r_seq ?_
          refine r_region ?_
          refine l_x rfl (x_mv rfl) ?_
          refine l_x rfl (x_not rfl) ?_
          refine l_nil ?_
          refine r_true rfl ?_
          refine r_seq ?_
          refine r_region ?_
          refine l_x rfl (x_as rfl) ?_
          refine l_x rfl (x_as rfl) ?_
          refine l_nil ?_
          refine r_ret (rs := [.tmp 2, .tmp 3]) [_, _] Try.func60 rfl ⟨rfl, rfl, trivial⟩ ?_
          exact ⟨_, _, _, rfl, New.nilvec .., S233.le, .no hV ⟨_, _, hh24136⟩⟩
    · skip
      refine s_allocY S10 rfl Try.zeroValue43 rfl ?_
      intro b239 w236 S237 hl238 hb240
      refine ⟨.of_le hl238, ?_⟩
      have hy241 : Keep (yng w5) w5 w236 := hy11.trans (Keep.of_le hl238)
      refine e_next [4] (by kernel_rfl) (by kernel_rfl) ⟨⟨_, _, rfl, rfl, ?_⟩, trivial⟩
      refine s_make EI 0 S237 rfl Try.runUnderlying25 Try.sizeOf3 Try.typeInfo3 Try.zeroValue3 rfl rfl rfl rfl (Nat.le_refl _) (by unfold maxLen; omega) (by show _ * 8 ≤ _; omega) ?_
      intro v245 w242 hv246 S243 hl244
      refine ⟨.of_le hl244, ?_⟩
      have hy247 : Keep (yng w5) w5 w242 := hy241.trans (Keep.of_le hl244)
      refine e_next [5] (by kernel_rfl) (by kernel_rfl) ⟨⟨_, _, rfl, rfl, ?_⟩, trivial⟩
      refine s_callf [] [] [_, _] rfl rfl Try.call71 rfl ((c_best N va arcs _ _ hV (zero_wts arcs) _ (hA.le S243.le) (vec_rd (S243.at 2 rfl))).mono ?_)
      rintro _ w248 (⟨bc24248, vx24248, x24248, mo24248, p24248, rfl, hO24248, hC24248, hmo24248⟩ | ⟨A24248, vn24248, ns24248, rfl, hN24248, hl24248, hh24248⟩)
      · skip
        have S249 := S243.join hO24248
        refine ⟨.of_le hO24248.le, ?_⟩
        have hy250 : Keep (yng w5) w5 w248 := hy247.trans (Keep.of_le hO24248.le)
        refine e_exact 6 _ (by kernel_rfl) rfl rfl (by kernel_rfl) rfl (ex_x rfl (fun w1 h1 => x_mv rfl)) ?_
        refine e_exact 7 _ (by kernel_rfl) rfl rfl (by kernel_rfl) rfl (ex_x rfl (fun w1 h1 => x_extract rfl rfl)) ?_
        refine e_exact 8 _ (by kernel_rfl) rfl rfl (by kernel_rfl) rfl (ex_x rfl (fun w1 h1 => x_extract rfl rfl)) ?_
        refine e_exact 9 _ (by kernel_rfl) rfl rfl (by kernel_rfl) rfl (ex_x rfl (fun w1 h1 => x_extract rfl rfl)) ?_
        refine e_exact 11 _ (by kernel_rfl) rfl rfl (by kernel_rfl) rfl (ex_x rfl (fun w1 h1 => x_as rfl)) ?_
        refine e_next [12] (by kernel_rfl) (by kernel_rfl) ⟨⟨_, _, rfl, rfl, ?_⟩, trivial⟩
        refine s_stores (vs := [_, _]) S249 1 rfl rfl rfl rfl (ones_cons rfl (ones_cons rfl ones_nil)) Try.sizeOf43 (by first | exact Nat.le_refl _ | simp) (splice_all rfl) ?_
        intro w251 S252 hk253
        refine ⟨(yng_blk hy11 hb240 hk253), ?_⟩
        have hy254 : Keep (yng w5) w5 w251 := hy250.trans ((yng_blk hy11 hb240 hk253))
        refine e_exact 13 _ (by kernel_rfl) rfl rfl (by kernel_rfl) rfl (ex_x rfl (fun w1 h1 => x_as rfl)) ?_
        refine e_done (by kernel_rfl) ?_
        refine l_nil ?_
        refine r_seq ?_
        refine r_seq ?_
        refine r_region ?_
        refine l_x rfl (x_mv rfl) ?_
        refine l_x rfl (x_not rfl) ?_
        refine l_nil ?_
        refine r_false rfl ?_
        refine r_skip ?_
        refine r_seq ?_
        have S255 := S252.pick (L' := [_, _, _, _]) [0, 2, 3, 4] (by decide) rfl
        refine r_forget [(1, .pointer (some ⟨b4, 0, none⟩)), (5, .pointer (some ⟨bc24248, 0, none⟩))] ⟨rfl, rfl, trivial⟩ ?_
        intro ρ256
        have hcirc := hC24248.circ hV hmo24248
        have hxl := hcirc.bds.1
        have hNx := hV.max
        have hN1 := hV.pos
        refine r_region ?_
        refine l_x rfl (x_as rfl) ?_
        have S257 := S255.nilvec (E := EI)
        refine l_nil ?_
        refine r_seq ?_
        refine r_seq ?_
        refine r_region ?_
        refine l_x rfl (x_fieldAddr rfl Try.runUnderlying24 rfl Try.sizeOf22 (by decide)) ?_
        refine l_x rfl (x_load rfl (ld_blk (S257.blk 0 rfl) Try.isAgg22 rfl)) ?_
        refine l_x rfl (x_len (hA.le S257.le) rfl Try.runUnderlying22) ?_
        refine l_x rfl (x_mv rfl) ?_
        refine l_nil ?_
        refine r_block ?_
        refine r_loop (G := Nat × Value) (fun ⟨i, vr⟩ => arcs.length - i) (fun ⟨i, vr⟩ => [(1, .pointer (some ⟨b4, 0, none⟩)), (5, .pointer (some ⟨bc24248, 0, none⟩)), (31, va), (32, .int .i64 arcs.length), (33, .int .i64 i), (8, vr)]) (fun ⟨i, vr⟩ w' => (i ≤ arcs.length) ∧ Own nob w w' [blk b4 [.int .i64 N, va] 24, vec EI v245 (List.replicate arcs.length 0), blk bc24248 (carC N va vx24248 v245 mo24248 p24248) 91, vec EI vx24248 x24248, vec EI vr (stk arcs x24248 i)]) (0, .slice none 0 0) ⟨rfl, rfl, rfl, rfl, rfl, rfl, trivial⟩ ⟨Nat.zero_le _, S257⟩ ?_
        rintro ⟨i, vr⟩ ρ w1 ⟨hi, S1⟩ IH
        refine r_seq ?_
        refine r_region ?_
        refine l_x rfl (x_lss rfl rfl) ?_
        refine l_nil ?_
        refine r_seq ?_
        refine r_ifd rfl (fun hc34 => ?_) (fun hc34 => ?_)
        · skip
          obtain ⟨a, ha⟩ : ∃ a, arcs[i]? = some a := ⟨_, List.getElem?_eq_getElem (by omega)⟩
          obtain ⟨y, hy⟩ : ∃ y, x24248[i]? = some y := ⟨_, List.getElem?_eq_getElem (by omega)⟩
          have hok := hV.at ha
          have hsk := stk_len arcs x24248 i
          refine r_skip ?_
          refine r_seq ?_
          refine r_block ?_
          refine r_seq ?_
          refine r_region ?_
          refine l_x rfl (x_mv rfl) ?_
          refine l_index EA rfl (hA.le S1.le) rfl rfl Try.runUnderlying22 Try.sizeOf39 (by omega) ha ?_
          intro b258 o259 hat260 row261
          refine l_x rfl (x_load rfl (ld_row Try.isAgg39 Try.sizeOf39 rfl row261)) ?_
          refine l_alloc S1 rfl Try.zeroValue39 rfl ?_
          intro b265 w262 S263 hl264
          refine l_x rfl (x_as rfl) ?_
          refine l_stores S263 5 rfl rfl rfl rfl (EA.one _) Try.sizeOf39 (by first | exact Nat.le_refl _ | simp) (splice_all rfl) ?_
          intro w266 S267 hk268
          refine l_nil ?_
          refine r_seq ?_
          refine r_drawE 22 nob Try.mixed (by kernel_rfl) ?_
          intro w269 hl270
          have S271 := S267.step hl270
          refine e_exact 0 _ (by kernel_rfl) rfl rfl (by kernel_rfl) rfl (ex_x rfl (fun w1 h1 => x_mv rfl)) ?_
          refine e_exact 1 _ (by kernel_rfl) rfl rfl (by kernel_rfl) rfl (ex_x rfl (fun w1 h1 => x_nilCheck rfl)) ?_
          refine e_exact 2 _ (by kernel_rfl) rfl rfl (by kernel_rfl) rfl (ex_x rfl (fun w1 h1 => x_fieldAddr rfl Try.runUnderlying91 rfl Try.sizeOf25 (by decide))) ?_
          refine e_exact 3 _ (by kernel_rfl) rfl rfl (by kernel_rfl) rfl (ex_x rfl (fun w1 h1 => x_load rfl (ld_blk ((S271.step h1).blk 2 rfl) Try.isAgg25 rfl))) ?_
          refine e_exact 4 _ (by kernel_rfl) rfl rfl (by kernel_rfl) rfl (ex_x rfl (fun w1 h1 => x_mv rfl)) ?_
          refine e_index EI 5 (by kernel_rfl) rfl rfl (by kernel_rfl) rfl rfl (vec_rd (S271.at 3 rfl)) rfl rfl Try.runUnderlying25 Try.sizeOf3 (by omega) hy ?_
          intro b272 o273 hat274
          refine e_exact 6 _ (by kernel_rfl) rfl rfl (by kernel_rfl) rfl (ex_x rfl (fun w1 h1 => x_load rfl (ld_cell Try.isAgg3 ((rd_row (vec_rd ((S271.step h1).at 3 rfl)) hat274 hy) 0 _ rfl)))) ?_
          refine e_exact 7 _ (by kernel_rfl) rfl rfl (by kernel_rfl) rfl (ex_x rfl (fun w1 h1 => x_fieldAddr rfl Try.runUnderlying39 rfl Try.sizeOf3 (by decide))) ?_
          refine e_exact 8 _ (by kernel_rfl) rfl rfl (by kernel_rfl) rfl (ex_x rfl (fun w1 h1 => x_load rfl (ld_blk ((S271.step h1).blk 5 rfl) Try.isAgg3 rfl))) ?_
          refine e_exact 9 _ (by kernel_rfl) rfl rfl (by kernel_rfl) rfl (ex_x rfl (fun w1 h1 => x_lss rfl rfl)) ?_
          refine e_exact 10 _ (by kernel_rfl) rfl rfl (by kernel_rfl) rfl (ex_x rfl (fun w1 h1 => x_mv rfl)) ?_
          refine e_splitd (d := 48) rfl (fun hg48 => ?_) (fun hg48 => ?_)
          · skip
            refine e_exact 11 _ (by kernel_rfl) rfl rfl (by kernel_rfl) rfl (ex_x rfl (fun w1 h1 => x_mv rfl)) ?_
            refine e_exact 12 _ (by kernel_rfl) rfl rfl (by kernel_rfl) rfl (ex_x rfl (fun w1 h1 => x_fieldAddr rfl Try.runUnderlying39 rfl Try.sizeOf3 (by decide))) ?_
            refine e_exact 13 _ (by kernel_rfl) rfl rfl (by kernel_rfl) rfl (ex_x rfl (fun w1 h1 => x_load rfl (ld_blk ((S271.step h1).blk 5 rfl) Try.isAgg3 rfl))) ?_
            refine e_exact 14 _ (by kernel_rfl) rfl rfl (by kernel_rfl) rfl (ex_x rfl (fun w1 h1 => x_mv rfl)) ?_
            refine e_exact 16 _ (by kernel_rfl) rfl rfl (by kernel_rfl) rfl (ex_x rfl (fun w1 h1 => x_fieldAddr rfl Try.runUnderlying39 rfl Try.sizeOf3 (by decide))) ?_
            refine e_exact 17 _ (by kernel_rfl) rfl rfl (by kernel_rfl) rfl (ex_x rfl (fun w1 h1 => x_load rfl (ld_blk ((S271.step h1).blk 5 rfl) Try.isAgg3 rfl))) ?_
            refine e_next [15] (by kernel_rfl) (by kernel_rfl) ⟨⟨_, _, rfl, rfl, ?_⟩, trivial⟩
            refine s_callf [] [] [_, _, _] rfl rfl Try.call106 rfl ((c_reached N va arcs vx24248 x24248 v245 (List.replicate arcs.length 0) mo24248 p24248 hV (hcirc.amts hV) (zero_wts arcs) (fun v => by have := hC24248.pb v; omega) bc24248 _ (i : Int) ⟨by omega, by omega⟩ _ ⟨S271.blk 2 rfl, hA.le S271.le, vec_rd (S271.at 3 rfl), vec_rd (S271.at 1 rfl)⟩).mono ?_)
            rintro v53275 w275 ⟨D53275, hN53275, hl53275, hD53275⟩
            have S276 := S271.add hl53275 hN53275
            refine ⟨.of_le hl53275, ?_⟩
            have hDl53275 := hD53275.len.trans List.length_replicate
            have hM53275 : ∀ u : Nat, D53275[u]? = some true ↔ Rch arcs x24248 (i : Int) a.dst.toNat u := fun u => (hD53275.all u).trans (Go'.rch hV List.length_replicate)
            obtain ⟨q53275, hb53275⟩ : ∃ q, D53275[a.src.toNat]? = some q := ⟨_, List.getElem?_eq_getElem (by omega)⟩
            refine e_index EB 18 (by kernel_rfl) rfl rfl (by kernel_rfl) rfl rfl (vec_rd (S276.at 6 rfl)) rfl rfl Try.runUnderlying101 Try.sizeOf4 (by omega) (by first | assumption | exact List.getElem?_eq_getElem (by omega)) ?_
            intro b277 o278 hat279
            refine e_exact 19 _ (by kernel_rfl) rfl rfl (by kernel_rfl) rfl (ex_x rfl (fun w1 h1 => x_load rfl (ld_cell Try.isAgg4 ((rd_row (vec_rd ((S276.step h1).at 6 rfl)) hat279 (by first | assumption | exact List.getElem?_eq_getElem (by omega))) 0 _ rfl)))) ?_
            refine e_exact 20 _ (by kernel_rfl) rfl rfl (by kernel_rfl) rfl (ex_x rfl (fun w1 h1 => x_pick_t rfl rfl)) ?_
            refine e_exact 21 _ (by kernel_rfl) rfl rfl (by kernel_rfl) rfl (ex_x rfl (fun w1 h1 => x_as rfl)) ?_
            refine e_done (by kernel_rfl) ?_
            refine l_nil ?_
            refine r_seq ?_
            have S280 := S276.pick (L' := [_, _, _, _, _, _]) [0, 1, 2, 3, 4, 5] (by decide) rfl
            refine r_forget [(1, .pointer (some ⟨b4, 0, none⟩)), (5, .pointer (some ⟨bc24248, 0, none⟩)), (9, .int .i64 i), (10, .pointer (some ⟨b265, 0, none⟩)), (11, .bool q53275), (31, va), (32, .int .i64 arcs.length), (33, .int .i64 i), (8, vr)] ⟨rfl, rfl, rfl, rfl, rfl, rfl, rfl, rfl, rfl, trivial⟩ ?_
            intro ρ281
            refine r_drawE 22 nob Try.mixed (by kernel_rfl) ?_
            intro w282 hl283
            have S284 := S280.step hl283
            refine e_exact 0 _ (by kernel_rfl) rfl rfl (by kernel_rfl) rfl (ex_x rfl (fun w1 h1 => x_mv rfl)) ?_
            refine e_exact 1 _ (by kernel_rfl) rfl rfl (by kernel_rfl) rfl (ex_x rfl (fun w1 h1 => x_nilCheck rfl)) ?_
            refine e_exact 2 _ (by kernel_rfl) rfl rfl (by kernel_rfl) rfl (ex_x rfl (fun w1 h1 => x_fieldAddr rfl Try.runUnderlying91 rfl Try.sizeOf25 (by decide))) ?_
            refine e_exact 3 _ (by kernel_rfl) rfl rfl (by kernel_rfl) rfl (ex_x rfl (fun w1 h1 => x_load rfl (ld_blk ((S284.step h1).blk 2 rfl) Try.isAgg25 rfl))) ?_
            refine e_exact 4 _ (by kernel_rfl) rfl rfl (by kernel_rfl) rfl (ex_x rfl (fun w1 h1 => x_mv rfl)) ?_
            refine e_index EI 5 (by kernel_rfl) rfl rfl (by kernel_rfl) rfl rfl (vec_rd (S284.at 3 rfl)) rfl rfl Try.runUnderlying25 Try.sizeOf3 (by omega) hy ?_
            intro b285 o286 hat287
            refine e_exact 6 _ (by kernel_rfl) rfl rfl (by kernel_rfl) rfl (ex_x rfl (fun w1 h1 => x_load rfl (ld_cell Try.isAgg3 ((rd_row (vec_rd ((S284.step h1).at 3 rfl)) hat287 hy) 0 _ rfl)))) ?_
            refine e_exact 7 _ (by kernel_rfl) rfl rfl (by kernel_rfl) rfl (ex_x rfl (fun w1 h1 => x_fieldAddr rfl Try.runUnderlying39 rfl Try.sizeOf3 (by decide))) ?_
            refine e_exact 8 _ (by kernel_rfl) rfl rfl (by kernel_rfl) rfl (ex_x rfl (fun w1 h1 => x_load rfl (ld_blk ((S284.step h1).blk 5 rfl) Try.isAgg3 rfl))) ?_
            refine e_exact 9 _ (by kernel_rfl) rfl rfl (by kernel_rfl) rfl (ex_x rfl (fun w1 h1 => x_gtr rfl rfl)) ?_
            refine e_exact 10 _ (by kernel_rfl) rfl rfl (by kernel_rfl) rfl (ex_x rfl (fun w1 h1 => x_mv rfl)) ?_
            refine e_splitd (d := 69) rfl (fun hg69 => ?_) (fun hg69 => ?_)
            · skip
              refine e_exact 11 _ (by kernel_rfl) rfl rfl (by kernel_rfl) rfl (ex_x rfl (fun w1 h1 => x_mv rfl)) ?_
              refine e_exact 12 _ (by kernel_rfl) rfl rfl (by kernel_rfl) rfl (ex_x rfl (fun w1 h1 => x_fieldAddr rfl Try.runUnderlying39 rfl Try.sizeOf3 (by decide))) ?_
              refine e_exact 13 _ (by kernel_rfl) rfl rfl (by kernel_rfl) rfl (ex_x rfl (fun w1 h1 => x_load rfl (ld_blk ((S284.step h1).blk 5 rfl) Try.isAgg3 rfl))) ?_
              refine e_exact 14 _ (by kernel_rfl) rfl rfl (by kernel_rfl) rfl (ex_x rfl (fun w1 h1 => x_mv rfl)) ?_
              refine e_exact 16 _ (by kernel_rfl) rfl rfl (by kernel_rfl) rfl (ex_x rfl (fun w1 h1 => x_fieldAddr rfl Try.runUnderlying39 rfl Try.sizeOf3 (by decide))) ?_
              refine e_exact 17 _ (by kernel_rfl) rfl rfl (by kernel_rfl) rfl (ex_x rfl (fun w1 h1 => x_load rfl (ld_blk ((S284.step h1).blk 5 rfl) Try.isAgg3 rfl))) ?_
              refine e_next [15] (by kernel_rfl) (by kernel_rfl) ⟨⟨_, _, rfl, rfl, ?_⟩, trivial⟩
              refine s_callf [] [] [_, _, _] rfl rfl Try.call106 rfl ((c_reached N va arcs vx24248 x24248 v245 (List.replicate arcs.length 0) mo24248 p24248 hV (hcirc.amts hV) (zero_wts arcs) (fun v => by have := hC24248.pb v; omega) bc24248 _ (i : Int) ⟨by omega, by omega⟩ _ ⟨S284.blk 2 rfl, hA.le S284.le, vec_rd (S284.at 3 rfl), vec_rd (S284.at 1 rfl)⟩).mono ?_)
              rintro v74288 w288 ⟨D74288, hN74288, hl74288, hD74288⟩
              have S289 := S284.add hl74288 hN74288
              refine ⟨.of_le hl74288, ?_⟩
              have hDl74288 := hD74288.len.trans List.length_replicate
              have hM74288 : ∀ u : Nat, D74288[u]? = some true ↔ Rch arcs x24248 (i : Int) a.src.toNat u := fun u => (hD74288.all u).trans (Go'.rch hV List.length_replicate)
              obtain ⟨q74288, hb74288⟩ : ∃ q, D74288[a.dst.toNat]? = some q := ⟨_, List.getElem?_eq_getElem (by omega)⟩
              refine e_index EB 18 (by kernel_rfl) rfl rfl (by kernel_rfl) rfl rfl (vec_rd (S289.at 6 rfl)) rfl rfl Try.runUnderlying101 Try.sizeOf4 (by omega) (by first | assumption | exact List.getElem?_eq_getElem (by omega)) ?_
              intro b290 o291 hat292
              refine e_exact 19 _ (by kernel_rfl) rfl rfl (by kernel_rfl) rfl (ex_x rfl (fun w1 h1 => x_load rfl (ld_cell Try.isAgg4 ((rd_row (vec_rd ((S289.step h1).at 6 rfl)) hat292 (by first | assumption | exact List.getElem?_eq_getElem (by omega))) 0 _ rfl)))) ?_
              refine e_exact 20 _ (by kernel_rfl) rfl rfl (by kernel_rfl) rfl (ex_x rfl (fun w1 h1 => x_pick_t rfl rfl)) ?_
              refine e_exact 21 _ (by kernel_rfl) rfl rfl (by kernel_rfl) rfl (ex_x rfl (fun w1 h1 => x_as rfl)) ?_
              refine e_done (by kernel_rfl) ?_
              refine l_nil ?_
              refine r_seq ?_
              refine r_region ?_
              refine l_x rfl (x_mv rfl) ?_
              refine l_x rfl (x_not rfl) ?_
              refine l_x rfl (x_mv rfl) ?_
              refine l_split (d := 82) rfl (fun hg82 => ?_) (fun hg82 => ?_)
              · skip
                have hf53 : q53275 = false := by simpa using hg82
                refine l_x rfl (x_mv rfl) ?_
                refine l_x rfl (x_not rfl) ?_
                refine l_x rfl (x_pick_t rfl rfl) ?_
                refine l_nil ?_
                refine r_if rfl (fun hc85 => ?_) (fun hc85 => ?_)
                · skip
                  have hf74 : q74288 = false := by simpa using hc85
                  refine r_region ?_
                  refine l_x rfl (x_mv rfl) ?_
                  refine l_x rfl (x_mv rfl) ?_
                  refine l_buildSlice EI [_] S289 rfl Try.runUnderlying25 Try.sizeOf3 Try.zeroValue3 rfl ⟨rfl, rfl, trivial⟩ (Nat.le_of_ble_eq_true rfl) ?_
                  intro v296 w293 S294 hl295
                  refine l_append EI S294 4 rfl rfl rfl rfl (vec_rd (S294.at 7 rfl)) Try.underlying25 info3 rfl rfl rfl (by unfold maxLen; rw [List.length_singleton]; omega) (by rw [List.length_singleton]; show _ * 8 ≤ _; omega) ?_
                  intro v300 w297 S298 hk299 hv301
                  refine l_x rfl (x_as rfl) ?_
                  refine l_nil ?_
                  refine r_inBlock ?_
                  refine r_region ?_
                  refine l_x rfl (x_add rfl rfl (by omega)) ?_
                  refine l_x rfl (x_mv rfl) ?_
                  refine l_nil ?_
                  have hs : Stuck arcs x24248 i := fun b m hb hm => by
                    rw [ha] at hb; cases hb
                    rw [hy] at hm; cases hm
                    exact ⟨fun h => absurd (hb53275.symm.trans ((hM53275 _).2 h.2)) (by rw [hf53]; decide), fun h => absurd (hb74288.symm.trans ((hM74288 _).2 h.2)) (by rw [hf74]; decide)⟩
                  exact IH (i + 1, v300) _ _ (by dsimp only; omega) ⟨rfl, rfl, rfl, rfl, rfl, rfl, trivial⟩ ⟨by omega, (by rw [stk_yes hs]; exact S298.take 5)⟩
                · skip
                  have ht74 : q74288 = true := by simpa using hc85
                  refine r_skip ?_
                  refine r_inBlock ?_
                  refine r_region ?_
                  refine l_x rfl (x_add rfl rfl (by omega)) ?_
                  refine l_x rfl (x_mv rfl) ?_
                  refine l_nil ?_
                  have hs : ¬ Stuck arcs x24248 i := fun hs => (hs a y ha hy).2 ⟨hg69, (hM74288 _).1 (hb74288.trans (congrArg some ht74))⟩
                  exact IH (i + 1, vr) _ _ (by dsimp only; omega) ⟨rfl, rfl, rfl, rfl, rfl, rfl, trivial⟩ ⟨by omega, (by rw [stk_no hs]; exact S289.take 5)⟩
              · skip
                have ht53 : q53275 = true := by simpa using hg82
                refine l_pass rfl ?_
                refine l_pass rfl ?_
                refine l_x rfl (x_pick_f rfl rfl) ?_
                refine l_nil ?_
                refine r_false rfl ?_
                refine r_skip ?_
                refine r_inBlock ?_
                refine r_region ?_
                refine l_x rfl (x_add rfl rfl (by omega)) ?_
                refine l_x rfl (x_mv rfl) ?_
                refine l_nil ?_
                have hs : ¬ Stuck arcs x24248 i := fun hs => (hs a y ha hy).1 ⟨hg48, (hM53275 _).1 (hb53275.trans (congrArg some ht53))⟩
                exact IH (i + 1, vr) _ _ (by dsimp only; omega) ⟨rfl, rfl, rfl, rfl, rfl, rfl, trivial⟩ ⟨by omega, (by rw [stk_no hs]; exact S289.take 5)⟩
            · skip
              refine e_exact 11 _ (by kernel_rfl) rfl rfl (by kernel_rfl) rfl (ex_pass rfl) ?_
              refine e_exact 12 _ (by kernel_rfl) rfl rfl (by kernel_rfl) rfl (ex_pass rfl) ?_
              refine e_exact 13 _ (by kernel_rfl) rfl rfl (by kernel_rfl) rfl (ex_pass rfl) ?_
              refine e_exact 14 _ (by kernel_rfl) rfl rfl (by kernel_rfl) rfl (ex_pass rfl) ?_
              refine e_exact 15 _ (by kernel_rfl) rfl rfl (by kernel_rfl) rfl (ex_pass rfl) ?_
              refine e_exact 16 _ (by kernel_rfl) rfl rfl (by kernel_rfl) rfl (ex_pass rfl) ?_
              refine e_exact 17 _ (by kernel_rfl) rfl rfl (by kernel_rfl) rfl (ex_pass rfl) ?_
              refine e_exact 18 _ (by kernel_rfl) rfl rfl (by kernel_rfl) rfl (ex_pass rfl) ?_
              refine e_exact 19 _ (by kernel_rfl) rfl rfl (by kernel_rfl) rfl (ex_pass rfl) ?_
              refine e_exact 20 _ (by kernel_rfl) rfl rfl (by kernel_rfl) rfl (ex_x rfl (fun w1 h1 => x_pick_f rfl rfl)) ?_
              refine e_exact 21 _ (by kernel_rfl) rfl rfl (by kernel_rfl) rfl (ex_x rfl (fun w1 h1 => x_as rfl)) ?_
              refine e_done (by kernel_rfl) ?_
              refine l_nil ?_
              refine r_seq ?_
              refine r_region ?_
              refine l_x rfl (x_mv rfl) ?_
              refine l_x rfl (x_not rfl) ?_
              refine l_x rfl (x_mv rfl) ?_
              refine l_split (d := 82) rfl (fun hg82 => ?_) (fun hg82 => ?_)
              · skip
                have hf53 : q53275 = false := by simpa using hg82
                refine l_x rfl (x_mv rfl) ?_
                refine l_x rfl (x_not rfl) ?_
                refine l_x rfl (x_pick_t rfl rfl) ?_
                refine l_nil ?_
                refine r_true rfl ?_
                refine r_region ?_
                refine l_x rfl (x_mv rfl) ?_
                refine l_x rfl (x_mv rfl) ?_
                refine l_buildSlice EI [_] S284 rfl Try.runUnderlying25 Try.sizeOf3 Try.zeroValue3 rfl ⟨rfl, rfl, trivial⟩ (Nat.le_of_ble_eq_true rfl) ?_
                intro v305 w302 S303 hl304
                refine l_append EI S303 4 rfl rfl rfl rfl (vec_rd (S303.at 6 rfl)) Try.underlying25 info3 rfl rfl rfl (by unfold maxLen; rw [List.length_singleton]; omega) (by rw [List.length_singleton]; show _ * 8 ≤ _; omega) ?_
                intro v309 w306 S307 hk308 hv310
                refine l_x rfl (x_as rfl) ?_
                refine l_nil ?_
                refine r_inBlock ?_
                refine r_region ?_
                refine l_x rfl (x_add rfl rfl (by omega)) ?_
                refine l_x rfl (x_mv rfl) ?_
                refine l_nil ?_
                have hs : Stuck arcs x24248 i := fun b m hb hm => by
                  rw [ha] at hb; cases hb
                  rw [hy] at hm; cases hm
                  exact ⟨fun h => absurd (hb53275.symm.trans ((hM53275 _).2 h.2)) (by rw [hf53]; decide), fun h => hg69 h.1⟩
                exact IH (i + 1, v309) _ _ (by dsimp only; omega) ⟨rfl, rfl, rfl, rfl, rfl, rfl, trivial⟩ ⟨by omega, (by rw [stk_yes hs]; exact S307.take 5)⟩
              · skip
                have ht53 : q53275 = true := by simpa using hg82
                refine l_pass rfl ?_
                refine l_pass rfl ?_
                refine l_x rfl (x_pick_f rfl rfl) ?_
                refine l_nil ?_
                refine r_false rfl ?_
                refine r_skip ?_
                refine r_inBlock ?_
                refine r_region ?_
                refine l_x rfl (x_add rfl rfl (by omega)) ?_
                refine l_x rfl (x_mv rfl) ?_
                refine l_nil ?_
                have hs : ¬ Stuck arcs x24248 i := fun hs => (hs a y ha hy).1 ⟨hg48, (hM53275 _).1 (hb53275.trans (congrArg some ht53))⟩
                exact IH (i + 1, vr) _ _ (by dsimp only; omega) ⟨rfl, rfl, rfl, rfl, rfl, rfl, trivial⟩ ⟨by omega, (by rw [stk_no hs]; exact S284.take 5)⟩
          · skip
            refine e_exact 11 _ (by kernel_rfl) rfl rfl (by kernel_rfl) rfl (ex_pass rfl) ?_
            refine e_exact 12 _ (by kernel_rfl) rfl rfl (by kernel_rfl) rfl (ex_pass rfl) ?_
            refine e_exact 13 _ (by kernel_rfl) rfl rfl (by kernel_rfl) rfl (ex_pass rfl) ?_
            refine e_exact 14 _ (by kernel_rfl) rfl rfl (by kernel_rfl) rfl (ex_pass rfl) ?_
            refine e_exact 15 _ (by kernel_rfl) rfl rfl (by kernel_rfl) rfl (ex_pass rfl) ?_
            refine e_exact 16 _ (by kernel_rfl) rfl rfl (by kernel_rfl) rfl (ex_pass rfl) ?_
            refine e_exact 17 _ (by kernel_rfl) rfl rfl (by kernel_rfl) rfl (ex_pass rfl) ?_
            refine e_exact 18 _ (by kernel_rfl) rfl rfl (by kernel_rfl) rfl (ex_pass rfl) ?_
            refine e_exact 19 _ (by kernel_rfl) rfl rfl (by kernel_rfl) rfl (ex_pass rfl) ?_
            refine e_exact 20 _ (by kernel_rfl) rfl rfl (by kernel_rfl) rfl (ex_x rfl (fun w1 h1 => x_pick_f rfl rfl)) ?_
            refine e_exact 21 _ (by kernel_rfl) rfl rfl (by kernel_rfl) rfl (ex_x rfl (fun w1 h1 => x_as rfl)) ?_
            refine e_done (by kernel_rfl) ?_
            refine l_nil ?_
            refine r_seq ?_
            have S311 := S271.pick (L' := [_, _, _, _, _, _]) [0, 1, 2, 3, 4, 5] (by decide) rfl
            refine r_forget [(1, .pointer (some ⟨b4, 0, none⟩)), (5, .pointer (some ⟨bc24248, 0, none⟩)), (9, .int .i64 i), (10, .pointer (some ⟨b265, 0, none⟩)), (11, .bool false), (31, va), (32, .int .i64 arcs.length), (33, .int .i64 i), (8, vr)] ⟨rfl, rfl, rfl, rfl, rfl, rfl, rfl, rfl, rfl, trivial⟩ ?_
            intro ρ312
            refine r_drawE 22 nob Try.mixed (by kernel_rfl) ?_
            intro w313 hl314
            have S315 := S311.step hl314
            refine e_exact 0 _ (by kernel_rfl) rfl rfl (by kernel_rfl) rfl (ex_x rfl (fun w1 h1 => x_mv rfl)) ?_
            refine e_exact 1 _ (by kernel_rfl) rfl rfl (by kernel_rfl) rfl (ex_x rfl (fun w1 h1 => x_nilCheck rfl)) ?_
            refine e_exact 2 _ (by kernel_rfl) rfl rfl (by kernel_rfl) rfl (ex_x rfl (fun w1 h1 => x_fieldAddr rfl Try.runUnderlying91 rfl Try.sizeOf25 (by decide))) ?_
            refine e_exact 3 _ (by kernel_rfl) rfl rfl (by kernel_rfl) rfl (ex_x rfl (fun w1 h1 => x_load rfl (ld_blk ((S315.step h1).blk 2 rfl) Try.isAgg25 rfl))) ?_
            refine e_exact 4 _ (by kernel_rfl) rfl rfl (by kernel_rfl) rfl (ex_x rfl (fun w1 h1 => x_mv rfl)) ?_
            refine e_index EI 5 (by kernel_rfl) rfl rfl (by kernel_rfl) rfl rfl (vec_rd (S315.at 3 rfl)) rfl rfl Try.runUnderlying25 Try.sizeOf3 (by omega) hy ?_
            intro b316 o317 hat318
            refine e_exact 6 _ (by kernel_rfl) rfl rfl (by kernel_rfl) rfl (ex_x rfl (fun w1 h1 => x_load rfl (ld_cell Try.isAgg3 ((rd_row (vec_rd ((S315.step h1).at 3 rfl)) hat318 hy) 0 _ rfl)))) ?_
            refine e_exact 7 _ (by kernel_rfl) rfl rfl (by kernel_rfl) rfl (ex_x rfl (fun w1 h1 => x_fieldAddr rfl Try.runUnderlying39 rfl Try.sizeOf3 (by decide))) ?_
            refine e_exact 8 _ (by kernel_rfl) rfl rfl (by kernel_rfl) rfl (ex_x rfl (fun w1 h1 => x_load rfl (ld_blk ((S315.step h1).blk 5 rfl) Try.isAgg3 rfl))) ?_
            refine e_exact 9 _ (by kernel_rfl) rfl rfl (by kernel_rfl) rfl (ex_x rfl (fun w1 h1 => x_gtr rfl rfl)) ?_
            refine e_exact 10 _ (by kernel_rfl) rfl rfl (by kernel_rfl) rfl (ex_x rfl (fun w1 h1 => x_mv rfl)) ?_
            refine e_splitd (d := 69) rfl (fun hg69 => ?_) (fun hg69 => ?_)
            · skip
              refine e_exact 11 _ (by kernel_rfl) rfl rfl (by kernel_rfl) rfl (ex_x rfl (fun w1 h1 => x_mv rfl)) ?_
              refine e_exact 12 _ (by kernel_rfl) rfl rfl (by kernel_rfl) rfl (ex_x rfl (fun w1 h1 => x_fieldAddr rfl Try.runUnderlying39 rfl Try.sizeOf3 (by decide))) ?_
              refine e_exact 13 _ (by kernel_rfl) rfl rfl (by kernel_rfl) rfl (ex_x rfl (fun w1 h1 => x_load rfl (ld_blk ((S315.step h1).blk 5 rfl) Try.isAgg3 rfl))) ?_
              refine e_exact 14 _ (by kernel_rfl) rfl rfl (by kernel_rfl) rfl (ex_x rfl (fun w1 h1 => x_mv rfl)) ?_
              refine e_exact 16 _ (by kernel_rfl) rfl rfl (by kernel_rfl) rfl (ex_x rfl (fun w1 h1 => x_fieldAddr rfl Try.runUnderlying39 rfl Try.sizeOf3 (by decide))) ?_
              refine e_exact 17 _ (by kernel_rfl) rfl rfl (by kernel_rfl) rfl (ex_x rfl (fun w1 h1 => x_load rfl (ld_blk ((S315.step h1).blk 5 rfl) Try.isAgg3 rfl))) ?_
              refine e_next [15] (by kernel_rfl) (by kernel_rfl) ⟨⟨_, _, rfl, rfl, ?_⟩, trivial⟩
              refine s_callf [] [] [_, _, _] rfl rfl Try.call106 rfl ((c_reached N va arcs vx24248 x24248 v245 (List.replicate arcs.length 0) mo24248 p24248 hV (hcirc.amts hV) (zero_wts arcs) (fun v => by have := hC24248.pb v; omega) bc24248 _ (i : Int) ⟨by omega, by omega⟩ _ ⟨S315.blk 2 rfl, hA.le S315.le, vec_rd (S315.at 3 rfl), vec_rd (S315.at 1 rfl)⟩).mono ?_)
              rintro v74319 w319 ⟨D74319, hN74319, hl74319, hD74319⟩
              have S320 := S315.add hl74319 hN74319
              refine ⟨.of_le hl74319, ?_⟩
              have hDl74319 := hD74319.len.trans List.length_replicate
              have hM74319 : ∀ u : Nat, D74319[u]? = some true ↔ Rch arcs x24248 (i : Int) a.src.toNat u := fun u => (hD74319.all u).trans (Go'.rch hV List.length_replicate)
              obtain ⟨q74319, hb74319⟩ : ∃ q, D74319[a.dst.toNat]? = some q := ⟨_, List.getElem?_eq_getElem (by omega)⟩
              refine e_index EB 18 (by kernel_rfl) rfl rfl (by kernel_rfl) rfl rfl (vec_rd (S320.at 6 rfl)) rfl rfl Try.runUnderlying101 Try.sizeOf4 (by omega) (by first | assumption | exact List.getElem?_eq_getElem (by omega)) ?_
              intro b321 o322 hat323
              refine e_exact 19 _ (by kernel_rfl) rfl rfl (by kernel_rfl) rfl (ex_x rfl (fun w1 h1 => x_load rfl (ld_cell Try.isAgg4 ((rd_row (vec_rd ((S320.step h1).at 6 rfl)) hat323 (by first | assumption | exact List.getElem?_eq_getElem (by omega))) 0 _ rfl)))) ?_
              refine e_exact 20 _ (by kernel_rfl) rfl rfl (by kernel_rfl) rfl (ex_x rfl (fun w1 h1 => x_pick_t rfl rfl)) ?_
              refine e_exact 21 _ (by kernel_rfl) rfl rfl (by kernel_rfl) rfl (ex_x rfl (fun w1 h1 => x_as rfl)) ?_
              refine e_done (by kernel_rfl) ?_
              refine l_nil ?_
              refine r_seq ?_
              refine r_region ?_
              refine l_x rfl (x_mv rfl) ?_
              refine l_x rfl (x_not rfl) ?_
              refine l_x rfl (x_mv rfl) ?_
              refine l_x rfl (x_mv rfl) ?_
              refine l_x rfl (x_not rfl) ?_
              refine l_x rfl (x_pick_t rfl rfl) ?_
              refine l_nil ?_
              refine r_if rfl (fun hc85 => ?_) (fun hc85 => ?_)
              · skip
                have hf74 : q74319 = false := by simpa using hc85
                refine r_region ?_
                refine l_x rfl (x_mv rfl) ?_
                refine l_x rfl (x_mv rfl) ?_
                refine l_buildSlice EI [_] S320 rfl Try.runUnderlying25 Try.sizeOf3 Try.zeroValue3 rfl ⟨rfl, rfl, trivial⟩ (Nat.le_of_ble_eq_true rfl) ?_
                intro v327 w324 S325 hl326
                refine l_append EI S325 4 rfl rfl rfl rfl (vec_rd (S325.at 7 rfl)) Try.underlying25 info3 rfl rfl rfl (by unfold maxLen; rw [List.length_singleton]; omega) (by rw [List.length_singleton]; show _ * 8 ≤ _; omega) ?_
                intro v331 w328 S329 hk330 hv332
                refine l_x rfl (x_as rfl) ?_
                refine l_nil ?_
                refine r_inBlock ?_
                refine r_region ?_
                refine l_x rfl (x_add rfl rfl (by omega)) ?_
                refine l_x rfl (x_mv rfl) ?_
                refine l_nil ?_
                have hs : Stuck arcs x24248 i := fun b m hb hm => by
                  rw [ha] at hb; cases hb
                  rw [hy] at hm; cases hm
                  exact ⟨fun h => hg48 h.1, fun h => absurd (hb74319.symm.trans ((hM74319 _).2 h.2)) (by rw [hf74]; decide)⟩
                exact IH (i + 1, v331) _ _ (by dsimp only; omega) ⟨rfl, rfl, rfl, rfl, rfl, rfl, trivial⟩ ⟨by omega, (by rw [stk_yes hs]; exact S329.take 5)⟩
              · skip
                have ht74 : q74319 = true := by simpa using hc85
                refine r_skip ?_
                refine r_inBlock ?_
                refine r_region ?_
                refine l_x rfl (x_add rfl rfl (by omega)) ?_
                refine l_x rfl (x_mv rfl) ?_
                refine l_nil ?_
                have hs : ¬ Stuck arcs x24248 i := fun hs => (hs a y ha hy).2 ⟨hg69, (hM74319 _).1 (hb74319.trans (congrArg some ht74))⟩
                exact IH (i + 1, vr) _ _ (by dsimp only; omega) ⟨rfl, rfl, rfl, rfl, rfl, rfl, trivial⟩ ⟨by omega, (by rw [stk_no hs]; exact S320.take 5)⟩
            · skip
              refine e_exact 11 _ (by kernel_rfl) rfl rfl (by kernel_rfl) rfl (ex_pass rfl) ?_
              refine e_exact 12 _ (by kernel_rfl) rfl rfl (by kernel_rfl) rfl (ex_pass rfl) ?_
              refine e_exact 13 _ (by kernel_rfl) rfl rfl (by kernel_rfl) rfl (ex_pass rfl) ?_
              refine e_exact 14 _ (by kernel_rfl) rfl rfl (by kernel_rfl) rfl (ex_pass rfl) ?_
              refine e_exact 15 _ (by kernel_rfl) rfl rfl (by kernel_rfl) rfl (ex_pass rfl) ?_
              refine e_exact 16 _ (by kernel_rfl) rfl rfl (by kernel_rfl) rfl (ex_pass rfl) ?_
              refine e_exact 17 _ (by kernel_rfl) rfl rfl (by kernel_rfl) rfl (ex_pass rfl) ?_
              refine e_exact 18 _ (by kernel_rfl) rfl rfl (by kernel_rfl) rfl (ex_pass rfl) ?_
              refine e_exact 19 _ (by kernel_rfl) rfl rfl (by kernel_rfl) rfl (ex_pass rfl) ?_
              refine e_exact 20 _ (by kernel_rfl) rfl rfl (by kernel_rfl) rfl (ex_x rfl (fun w1 h1 => x_pick_f rfl rfl)) ?_
              refine e_exact 21 _ (by kernel_rfl) rfl rfl (by kernel_rfl) rfl (ex_x rfl (fun w1 h1 => x_as rfl)) ?_
              refine e_done (by kernel_rfl) ?_
              refine l_nil ?_
              refine r_seq ?_
              refine r_region ?_
              refine l_x rfl (x_mv rfl) ?_
              refine l_x rfl (x_not rfl) ?_
              refine l_x rfl (x_mv rfl) ?_
              refine l_x rfl (x_mv rfl) ?_
              refine l_x rfl (x_not rfl) ?_
              refine l_x rfl (x_pick_t rfl rfl) ?_
              refine l_nil ?_
              refine r_true rfl ?_
              refine r_region ?_
              refine l_x rfl (x_mv rfl) ?_
              refine l_x rfl (x_mv rfl) ?_
              refine l_buildSlice EI [_] S315 rfl Try.runUnderlying25 Try.sizeOf3 Try.zeroValue3 rfl ⟨rfl, rfl, trivial⟩ (Nat.le_of_ble_eq_true rfl) ?_
              intro v336 w333 S334 hl335
              refine l_append EI S334 4 rfl rfl rfl rfl (vec_rd (S334.at 6 rfl)) Try.underlying25 info3 rfl rfl rfl (by unfold maxLen; rw [List.length_singleton]; omega) (by rw [List.length_singleton]; show _ * 8 ≤ _; omega) ?_
              intro v340 w337 S338 hk339 hv341
              refine l_x rfl (x_as rfl) ?_
              refine l_nil ?_
              refine r_inBlock ?_
              refine r_region ?_
              refine l_x rfl (x_add rfl rfl (by omega)) ?_
              refine l_x rfl (x_mv rfl) ?_
              refine l_nil ?_
              have hs : Stuck arcs x24248 i := fun b m hb hm => by
                rw [ha] at hb; cases hb
                rw [hy] at hm; cases hm
                exact ⟨fun h => hg48 h.1, fun h => hg69 h.1⟩
              exact IH (i + 1, v340) _ _ (by dsimp only; omega) ⟨rfl, rfl, rfl, rfl, rfl, rfl, trivial⟩ ⟨by omega, (by rw [stk_yes hs]; exact S338.take 5)⟩
        · skip
          have hie : i = arcs.length := by omega
          subst hie
          refine r_exit rfl ?_
          refine r_seq ?_
          refine r_region ?_
          refine l_x rfl (x_mv rfl) ?_
          refine l_x rfl (x_as rfl) ?_
          refine l_x rfl (x_as rfl) ?_
          refine l_nil ?_
          refine r_ret (rs := [.tmp 2, .tmp 3]) [_, _] Try.func60 rfl ⟨rfl, rfl, trivial⟩ ?_
          exact ⟨_, _, _, rfl, S1.new 4 rfl, S1.le, .yes hV hcirc⟩
      · skip
        have S342 := S243.add hl24248 hN24248
        refine ⟨.of_le hl24248, ?_⟩
        have hy343 : Keep (yng w5) w5 w248 := hy247.trans (Keep.of_le hl24248)
        refine e_exact 6 _ (by kernel_rfl) rfl rfl (by kernel_rfl) rfl (ex_x rfl (fun w1 h1 => x_mv rfl)) ?_
        refine e_exact 7 _ (by kernel_rfl) rfl rfl (by kernel_rfl) rfl (ex_x rfl (fun w1 h1 => x_extract rfl rfl)) ?_
        refine e_exact 8 _ (by kernel_rfl) rfl rfl (by kernel_rfl) rfl (ex_x rfl (fun w1 h1 => x_extract rfl rfl)) ?_
        refine e_exact 9 _ (by kernel_rfl) rfl rfl (by kernel_rfl) rfl (ex_x rfl (fun w1 h1 => x_extract rfl rfl)) ?_
        refine e_exact 11 _ (by kernel_rfl) rfl rfl (by kernel_rfl) rfl (ex_x rfl (fun w1 h1 => x_as rfl)) ?_
        refine e_next [12] (by kernel_rfl) (by kernel_rfl) ⟨⟨_, _, rfl, rfl, ?_⟩, trivial⟩
        refine s_stores (vs := [_, _]) S342 1 rfl rfl rfl rfl (ones_cons rfl (ones_cons (Rd.one (vec_rd (S342.at 3 rfl))) ones_nil)) Try.sizeOf43 (by first | exact Nat.le_refl _ | simp) (splice_all rfl) ?_
        intro w344 S345 hk346
        refine ⟨(yng_blk hy11 hb240 hk346), ?_⟩
        have hy347 : Keep (yng w5) w5 w344 := hy343.trans ((yng_blk hy11 hb240 hk346))
        refine e_exact 13 _ (by kernel_rfl) rfl rfl (by kernel_rfl) rfl (ex_x rfl (fun w1 h1 => x_as rfl)) ?_
        refine e_done (by kernel_rfl) ?_
        refine l_nil ?_
        refine r_seq ?_
        refine r_seq ?_
        refine r_region ?_
        refine l_x rfl (x_mv rfl) ?_
        refine l_x rfl (x_not rfl) ?_
        refine l_nil ?_
        refine r_true rfl ?_
        refine r_seq ?_
        refine r_region ?_
        refine l_x rfl (x_as rfl) ?_
        refine l_x rfl (x_as rfl) ?_
        refine l_nil ?_
        refine r_ret (rs := [.tmp 2, .tmp 3]) [_, _] Try.func60 rfl ⟨rfl, rfl, trivial⟩ ?_
        exact ⟨_, _, _, rfl, New.nilvec .., S345.le, .no hV ⟨_, _, hh24248⟩⟩

end Go.Proofs
