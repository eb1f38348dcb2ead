/- Texts joined for a claim: F18, L3, G4, F20, F23, G7, R1. -/
import Derived.Test.YtddapgjjndbejaaKhCircles
import Derived.Test.YtddapgjjndbejaaKbCircles
import Derived.Test.YtddapgjjndbejaaKcCircles
/-
  Contracts of functions of the program: each by symbolic execution of its text.
-/
namespace Go.Proofs
open Go Go.Vk Go.Vk.Flow

/-- couchant/flow.Through$1. -/
theorem c_Through1 (N : Int) (va : Value) (arcs : List Arc) (i : Int) (b0 b1 : Nat) (hV : Valid N arcs) (w : World) (h0 : Blk w b0 [.int .i64 i] 3) (h1 : Blk w b1 [.int .i64 N, va] 24) (hA : Rd EA w va arcs) :
    Cl Try.prog 107 #[.pointer (some ⟨b0, 0, none⟩), .pointer (some ⟨b1, 0, none⟩)] w fun v w' => v = .bool (inb arcs i) ∧ Le w w' := by
  have hLx := hV.len
  refine fn_of_run (args := [_, _]) 9 Try.func107 rfl rfl rfl fun cs => ?_
  have S := Own.start (X := nob) w
  refine r_seq ?_
  refine r_region ?_
  refine l_x rfl (x_as rfl) ?_
  refine l_nil ?_
  refine r_seq ?_
  refine r_region ?_
  refine l_x rfl (x_load rfl (ld_blk (h0.keep S.le id) Try.isAgg3 rfl)) ?_
  refine l_x rfl (x_fieldAddr rfl Try.runUnderlying24 rfl Try.sizeOf22 (by decide)) ?_
  refine l_x rfl (x_load rfl (ld_blk (h1.keep S.le id) Try.isAgg22 rfl)) ?_
  refine l_x rfl (x_len (hA.le S.le) rfl Try.runUnderlying22) ?_
  refine l_x rfl (x_sub rfl rfl (by omega)) ?_
  refine l_call [] [] [_, _, _] rfl rfl Try.call64 rfl (c_in _ _ _ _) ?_
  rintro _ w1 ⟨rfl, hl3⟩
  have S2 := S.step hl3
  refine l_x rfl (x_as rfl) ?_
  refine l_nil ?_
  refine r_ret (rs := [.tmp 2]) [_] Try.func107 rfl ⟨rfl, trivial⟩ ?_
  exact ⟨congrArg Value.bool (by simp only [inb]), S2.le⟩

set_option maxHeartbeats 4000000 in
/-- couchant/flow.Through. -/
theorem c_Through (N : Int) (va : Value) (arcs : List Arc) (i k : Int) (w : World) (hA : Rd EA w va arcs) :
    Cl Try.prog 55 #[.agg #[.int .i64 N, va], .int .i64 i, .int .i64 k] w fun v w' => ∃ vx x is e, v = .tuple #[vx, .bool is, .int .i64 e] ∧ New w w' (vec EI vx x) ∧ Le w w' ∧ ThR N arcs i k x is e := by
  refine fn_of_run (args := [_, _, _]) 60 Try.func55 rfl rfl rfl fun cs => ?_
  have S := Own.start (X := nob) w
  refine r_seq ?_
  refine r_region ?_
  refine l_box S rfl rfl ?_
  intro b4 w1 S2 hl3
  refine l_box S2 rfl rfl ?_
  intro b8 w5 S6 hl7
  refine l_x rfl (x_as rfl) ?_
  refine l_x rfl (x_as rfl) ?_
  refine l_x rfl (x_as rfl) ?_
  refine l_nil ?_
  refine r_seq ?_
  refine r_seq ?_
  refine r_region ?_
  refine l_x rfl (x_load rfl (ld_blks (S6.blk 0 rfl) Try.isAgg24 Try.sizeOf24 rfl rfl)) ?_
  refine l_x rfl (x_func rfl rfl) ?_
  refine l_call [] [] [_, _] rfl rfl Try.call62 rfl (c_asked N va arcs (inb arcs i) 107 [_, _] _ (hA.le S6.le) Try.call107 (fun hv w1 h1 => c_Through1 N va arcs i _ _ (chk_zero.1 hv) w1 ((S6.blk 1 rfl).keep h1 id) ((S6.blk 0 rfl).keep h1 id) (hA.le (S6.le.trans h1)))) ?_
  rintro _ w9 ⟨rfl, hl11⟩
  have S10 := S6.step hl11
  refine l_x rfl (x_as rfl) ?_
  refine l_nil ?_
  refine r_seq ?_
  refine r_region ?_
  refine l_x rfl (x_mv rfl) ?_
  refine l_x rfl (x_neq rfl rfl) ?_
  refine l_nil ?_
  refine r_ifd rfl (fun hc17 => ?_) (fun hc17 => ?_)
  · skip
    change ¬ aski N arcs i = 0 at hc17
    refine r_seq ?_
    refine r_region ?_
    refine l_x rfl (x_mv rfl) ?_
    refine l_x rfl (x_as rfl) ?_
    refine l_x rfl (x_as rfl) ?_
    refine l_x rfl (x_as rfl) ?_
    refine l_nil ?_
    refine r_ret (rs := [.tmp 6, .tmp 7, .tmp 8]) [_, _, _] Try.func55 rfl ⟨rfl, rfl, rfl, trivial⟩ ?_
    exact ⟨_, [], _, _, rfl, New.nilvec .., S10.le, .bad hc17⟩
  · skip
    have h0 : aski N arcs i = 0 := Decidable.not_not.1 hc17
    obtain ⟨hV, hi0, hi1⟩ := aski_zero.1 h0
    have hLx := hV.len
    obtain ⟨a, ha0⟩ : ∃ a, arcs[i.toNat]? = some a := ⟨_, List.getElem?_eq_getElem (by omega)⟩
    refine r_skip ?_
    refine r_seq ?_
    refine r_seq ?_
    refine r_drawR 15 Try.mixed (by kernel_rfl) ?_
    refine w_x rfl (fun w1 h1 => x_mv rfl) ?_
    refine w_x rfl (fun w1 h1 => x_fieldAddr rfl Try.runUnderlying24 rfl Try.sizeOf22 (by decide)) ?_
    refine w_x rfl (fun w1 h1 => x_load rfl (ld_blk ((S10.step h1).blk 0 rfl) Try.isAgg22 rfl)) ?_
    refine w_x rfl (fun w1 h1 => x_load rfl (ld_blk ((S10.step h1).blk 1 rfl) Try.isAgg3 rfl)) ?_
    refine w_index EA rfl (hA.le S10.le) rfl rfl Try.runUnderlying22 Try.sizeOf39 (by omega) ha0 ?_
    intro b12 o13 hat14 row15
    refine w_x rfl (fun w1 h1 => x_fieldAddr rfl Try.runUnderlying39 rfl Try.sizeOf3 (by decide)) ?_
    refine w_x rfl (fun w1 h1 => x_load rfl (ld_cell Try.isAgg3 ((row15.le h1) 2 _ rfl))) ?_
    refine w_x rfl (fun w1 h1 => x_fieldAddr rfl Try.runUnderlying24 rfl Try.sizeOf22 (by decide)) ?_
    refine w_x rfl (fun w1 h1 => x_load rfl (ld_blk ((S10.step h1).blk 0 rfl) Try.isAgg22 rfl)) ?_
    refine w_x rfl (fun w1 h1 => x_load rfl (ld_blk ((S10.step h1).blk 1 rfl) Try.isAgg3 rfl)) ?_
    refine w_index EA rfl (hA.le S10.le) rfl rfl Try.runUnderlying22 Try.sizeOf39 (by omega) ha0 ?_
    intro b16 o17 hat18 row19
    refine w_x rfl (fun w1 h1 => x_fieldAddr rfl Try.runUnderlying39 rfl Try.sizeOf3 (by decide)) ?_
    refine w_x rfl (fun w1 h1 => x_load rfl (ld_cell Try.isAgg3 ((row19.le h1) 3 _ rfl))) ?_
    refine wd_call [] [] [_, _, _] rfl rfl Try.call64 rfl (fun w1 h1 => c_in _ _ _ _) ?_
    refine w_x rfl (fun w1 h1 => x_notd rfl) ?_
    refine w_nil ?_
    intro w20 hl21
    have S22 := S10.step hl21
    refine l_nil ?_
    refine r_ifd rfl (fun hc33 => ?_) (fun hc33 => ?_)
    · skip
      have hk : inb2 arcs i.toNat k = false := by rw [inb2, ha0]; exact decide_eq_false hc33
      refine r_seq ?_
      refine r_region ?_
      refine l_x rfl (x_as rfl) ?_
      refine l_x rfl (x_as rfl) ?_
      refine l_x rfl (x_as rfl) ?_
      refine l_nil ?_
      refine r_ret (rs := [.tmp 6, .tmp 7, .tmp 8]) [_, _, _] Try.func55 rfl ⟨rfl, rfl, rfl, trivial⟩ ?_
      exact ⟨_, [], _, _, rfl, New.nilvec .., S22.le, .out h0 hk⟩
    · skip
      have hk : inb2 arcs i.toNat k = true := by rw [inb2, ha0]; exact decide_eq_true (Decidable.not_not.1 hc33)
      refine r_skip ?_
      refine r_seq ?_
      refine r_drawE 7 nob Try.mixed (by kernel_rfl) ?_
      intro w23 hl24
      have S25 := S22.step hl24
      refine e_exact 0 _ (by kernel_rfl) rfl rfl (by kernel_rfl) rfl (ex_x rfl (fun w1 h1 => x_fieldAddr rfl Try.runUnderlying24 rfl Try.sizeOf3 (by decide))) ?_
      refine e_exact 1 _ (by kernel_rfl) rfl rfl (by kernel_rfl) rfl (ex_x rfl (fun w1 h1 => x_load rfl (ld_blk ((S25.step h1).blk 0 rfl) Try.isAgg3 rfl))) ?_
      refine e_exact 2 _ (by kernel_rfl) rfl rfl (by kernel_rfl) rfl (ex_x rfl (fun w1 h1 => x_fieldAddr rfl Try.runUnderlying24 rfl Try.sizeOf22 (by decide))) ?_
      refine e_exact 3 _ (by kernel_rfl) rfl rfl (by kernel_rfl) rfl (ex_x rfl (fun w1 h1 => x_load rfl (ld_blk ((S25.step h1).blk 0 rfl) Try.isAgg22 rfl))) ?_
      refine e_next [4, 6] (by kernel_rfl) (by kernel_rfl) ⟨⟨_, _, rfl, rfl, ?_⟩, ⟨_, _, rfl, rfl, ?_⟩, trivial⟩
      · skip
        refine s_callf [] [] [_] rfl rfl Try.call65 rfl ((c_copiedA _ _ (by omega) _ (hA.le S25.le)).mono ?_)
        rintro v3826 w26 ⟨hN3826, hl3826⟩
        have S27 := S25.add hl3826 hN3826
        refine ⟨.of_le hl3826, ?_⟩
        refine e_exact 5 _ (by kernel_rfl) rfl rfl (by kernel_rfl) rfl (ex_x rfl (fun w1 h1 => x_buildS (out := [_, _]) (ss := [1, 1]) Try.zeroValue24 rfl Try.runUnderlying24 ⟨Try.sizeOf3, Try.sizeOf22, trivial⟩ (fill_cons rfl rfl rfl (Nat.le_of_ble_eq_true rfl) (fill_cons rfl (Rd.cells (vec_rd (S27.at 2 rfl))) rfl (Nat.le_of_ble_eq_true rfl) fill_nil)))) ?_
        refine e_next [6] (by kernel_rfl) (by kernel_rfl) ⟨⟨_, _, rfl, rfl, ?_⟩, trivial⟩
        refine s_alloc S27 rfl Try.zeroValue24 rfl ?_
        intro b31 w28 S29 hl30
        refine ⟨.of_le hl30, ?_⟩
        refine e_done (by kernel_rfl) ?_
        refine l_stores (vs := [_, _]) S29 3 rfl rfl rfl rfl (ones_cons rfl (ones_cons (Rd.one (vec_rd (S29.at 2 rfl))) ones_nil)) Try.sizeOf24 (by first | exact Nat.le_refl _ | simp) (splice_all rfl) ?_
        intro w32 S33 hk34
        refine l_nil ?_
        refine r_seq ?_
        have hcur1 : (arcs.set i.toNat (⟨a.src, a.dst, k, a.hi, a.loBy, a.hiBy⟩ : Arc))[i.toNat]? = some ⟨a.src, a.dst, k, a.hi, a.loBy, a.hiBy⟩ := set_get ha0
        refine r_drawE 11 (Rsc.fp (vec EA v3826 arcs)) Try.mixed (by kernel_rfl) ?_
        intro w35 hl36
        have S37 := S33.step hl36
        refine e_exact 0 _ (by kernel_rfl) rfl rfl (by kernel_rfl) rfl (ex_x rfl (fun w1 h1 => x_fieldAddr rfl Try.runUnderlying24 rfl Try.sizeOf22 (by decide))) ?_
        refine e_exact 1 _ (by kernel_rfl) rfl rfl (by kernel_rfl) rfl (ex_x rfl (fun w1 h1 => x_load rfl (ld_blk ((S37.under 2 rfl h1).blk 3 rfl) Try.isAgg22 rfl))) ?_
        refine e_exact 2 _ (by kernel_rfl) rfl rfl (by kernel_rfl) rfl (ex_x rfl (fun w1 h1 => x_load rfl (ld_blk ((S37.under 2 rfl h1).blk 1 rfl) Try.isAgg3 rfl))) ?_
        refine e_exact 3 _ (by kernel_rfl) rfl rfl (by kernel_rfl) rfl (ex_x rfl (fun w1 h1 => x_fieldAddr rfl Try.runUnderlying24 rfl Try.sizeOf22 (by decide))) ?_
        refine e_exact 4 _ (by kernel_rfl) rfl rfl (by kernel_rfl) rfl (ex_x rfl (fun w1 h1 => x_load rfl (ld_blk ((S37.under 2 rfl h1).blk 3 rfl) Try.isAgg22 rfl))) ?_
        refine e_exact 5 _ (by kernel_rfl) rfl rfl (by kernel_rfl) rfl (ex_x rfl (fun w1 h1 => x_load rfl (ld_blk ((S37.under 2 rfl h1).blk 1 rfl) Try.isAgg3 rfl))) ?_
        refine e_exact 6 _ (by kernel_rfl) rfl rfl (by kernel_rfl) rfl (ex_x rfl (fun w1 h1 => x_mv rfl)) ?_
        refine e_exact 7 _ (by kernel_rfl) rfl rfl (by kernel_rfl) rfl (ex_x rfl (fun w1 h1 => x_mv rfl)) ?_
        refine e_index EA 8 (by kernel_rfl) rfl rfl (by kernel_rfl) rfl rfl (vec_rd (S37.at 2 rfl)) rfl rfl Try.runUnderlying22 Try.sizeOf39 (by omega) ha0 ?_
        intro b38 o39 hat40
        refine e_exact 9 _ (by kernel_rfl) rfl rfl (by kernel_rfl) rfl (ex_x rfl (fun w1 h1 => x_fieldAddr rfl Try.runUnderlying39 rfl Try.sizeOf3 (by decide))) ?_
        refine e_next [10] (by kernel_rfl) (by kernel_rfl) ⟨⟨_, _, rfl, rfl, ?_⟩, trivial⟩
        refine s_storevi (a' := ⟨a.src, a.dst, k, a.hi, a.loBy, a.hiBy⟩) (f := 2) S37 2 rfl rfl hat40 rfl rfl Try.sizeOf3 ha0 (by decide) rfl ?_
        intro w41 S42 hk43
        refine ⟨hk43, ?_⟩
        refine e_done (by kernel_rfl) ?_
        refine l_index EA rfl (vec_rd (S42.at 2 rfl)) rfl rfl Try.runUnderlying22 Try.sizeOf39 (by omega) hcur1 ?_
        intro b44 o45 hat46 row47
        refine l_x rfl (x_fieldAddr rfl Try.runUnderlying39 rfl Try.sizeOf3 (by decide)) ?_
        refine l_storevi (a' := ⟨a.src, a.dst, k, k, a.loBy, a.hiBy⟩) (f := 3) S42 2 rfl rfl hat46 rfl rfl Try.sizeOf3 hcur1 (by decide) rfl ?_
        intro w48 S49 hk50
        refine l_nil ?_
        refine r_seq ?_
        have ef : (arcs.set i.toNat (⟨a.src, a.dst, k, a.hi, a.loBy, a.hiBy⟩ : Arc)).set i.toNat (⟨a.src, a.dst, k, k, a.loBy, a.hiBy⟩ : Arc) = fix arcs i.toNat k := by rw [List.set_set, fix, ha0]
        have Sf := S49
        rw [ef] at Sf
        refine r_region ?_
        refine l_x rfl (x_load rfl (ld_blks (Sf.blk 3 rfl) Try.isAgg24 Try.sizeOf24 rfl rfl)) ?_
        refine l_call [] [] [_] rfl rfl Try.call43 rfl (c_Some _ _ _ _ (vec_rd (Sf.at 2 rfl))) ?_
        rintro _ w51 ⟨vx5451, x5451, e5451, rfl, hN5451, hl5451, hR5451⟩
        have S52 := Sf.add hl5451 hN5451
        refine l_x rfl (x_mv rfl) ?_
        refine l_x rfl (x_extract rfl rfl) ?_
        refine l_x rfl (x_extract rfl rfl) ?_
        refine l_x rfl (x_as rfl) ?_
        refine l_x rfl (x_as rfl) ?_
        refine l_nil ?_
        refine r_seq ?_
        refine r_region ?_
        refine l_x rfl (x_mv rfl) ?_
        refine l_x rfl (x_mv rfl) ?_
        refine l_x rfl (x_eql rfl rfl) ?_
        refine l_x rfl (x_as rfl) ?_
        refine l_x rfl (x_as rfl) ?_
        refine l_x rfl (x_as rfl) ?_
        refine l_nil ?_
        refine r_ret (rs := [.tmp 6, .tmp 7, .tmp 8]) [_, _, _] Try.func55 rfl ⟨rfl, rfl, rfl, trivial⟩ ?_
        exact ⟨_, _, _, _, rfl, S52.new 4 rfl, S52.le, ThR.of h0 hk hR5451⟩
      · skip
        refine s_alloc S25 rfl Try.zeroValue24 rfl ?_
        intro b56 w53 S54 hl55
        refine ⟨.of_le hl55, ?_⟩
        refine e_next [4] (by kernel_rfl) (by kernel_rfl) ⟨⟨_, _, rfl, rfl, ?_⟩, trivial⟩
        refine s_callf [] [] [_] rfl rfl Try.call65 rfl ((c_copiedA _ _ (by omega) _ (hA.le S54.le)).mono ?_)
        rintro v3857 w57 ⟨hN3857, hl3857⟩
        have S58 := S54.add hl3857 hN3857
        refine ⟨.of_le hl3857, ?_⟩
        refine e_exact 5 _ (by kernel_rfl) rfl rfl (by kernel_rfl) rfl (ex_x rfl (fun w1 h1 => x_buildS (out := [_, _]) (ss := [1, 1]) Try.zeroValue24 rfl Try.runUnderlying24 ⟨Try.sizeOf3, Try.sizeOf22, trivial⟩ (fill_cons rfl rfl rfl (Nat.le_of_ble_eq_true rfl) (fill_cons rfl (Rd.cells (vec_rd (S58.at 3 rfl))) rfl (Nat.le_of_ble_eq_true rfl) fill_nil)))) ?_
        refine e_done (by kernel_rfl) ?_
        refine l_stores (vs := [_, _]) S58 2 rfl rfl rfl rfl (ones_cons rfl (ones_cons (Rd.one (vec_rd (S58.at 3 rfl))) ones_nil)) Try.sizeOf24 (by first | exact Nat.le_refl _ | simp) (splice_all rfl) ?_
        intro w59 S60 hk61
        refine l_nil ?_
        refine r_seq ?_
        have hcur1 : (arcs.set i.toNat (⟨a.src, a.dst, k, a.hi, a.loBy, a.hiBy⟩ : Arc))[i.toNat]? = some ⟨a.src, a.dst, k, a.hi, a.loBy, a.hiBy⟩ := set_get ha0
        refine r_drawE 11 (Rsc.fp (vec EA v3857 arcs)) Try.mixed (by kernel_rfl) ?_
        intro w62 hl63
        have S64 := S60.step hl63
        refine e_exact 0 _ (by kernel_rfl) rfl rfl (by kernel_rfl) rfl (ex_x rfl (fun w1 h1 => x_fieldAddr rfl Try.runUnderlying24 rfl Try.sizeOf22 (by decide))) ?_
        refine e_exact 1 _ (by kernel_rfl) rfl rfl (by kernel_rfl) rfl (ex_x rfl (fun w1 h1 => x_load rfl (ld_blk ((S64.under 3 rfl h1).blk 2 rfl) Try.isAgg22 rfl))) ?_
        refine e_exact 2 _ (by kernel_rfl) rfl rfl (by kernel_rfl) rfl (ex_x rfl (fun w1 h1 => x_load rfl (ld_blk ((S64.under 3 rfl h1).blk 1 rfl) Try.isAgg3 rfl))) ?_
        refine e_exact 3 _ (by kernel_rfl) rfl rfl (by kernel_rfl) rfl (ex_x rfl (fun w1 h1 => x_fieldAddr rfl Try.runUnderlying24 rfl Try.sizeOf22 (by decide))) ?_
        refine e_exact 4 _ (by kernel_rfl) rfl rfl (by kernel_rfl) rfl (ex_x rfl (fun w1 h1 => x_load rfl (ld_blk ((S64.under 3 rfl h1).blk 2 rfl) Try.isAgg22 rfl))) ?_
        refine e_exact 5 _ (by kernel_rfl) rfl rfl (by kernel_rfl) rfl (ex_x rfl (fun w1 h1 => x_load rfl (ld_blk ((S64.under 3 rfl h1).blk 1 rfl) Try.isAgg3 rfl))) ?_
        refine e_exact 6 _ (by kernel_rfl) rfl rfl (by kernel_rfl) rfl (ex_x rfl (fun w1 h1 => x_mv rfl)) ?_
        refine e_exact 7 _ (by kernel_rfl) rfl rfl (by kernel_rfl) rfl (ex_x rfl (fun w1 h1 => x_mv rfl)) ?_
        refine e_index EA 8 (by kernel_rfl) rfl rfl (by kernel_rfl) rfl rfl (vec_rd (S64.at 3 rfl)) rfl rfl Try.runUnderlying22 Try.sizeOf39 (by omega) ha0 ?_
        intro b65 o66 hat67
        refine e_exact 9 _ (by kernel_rfl) rfl rfl (by kernel_rfl) rfl (ex_x rfl (fun w1 h1 => x_fieldAddr rfl Try.runUnderlying39 rfl Try.sizeOf3 (by decide))) ?_
        refine e_next [10] (by kernel_rfl) (by kernel_rfl) ⟨⟨_, _, rfl, rfl, ?_⟩, trivial⟩
        refine s_storevi (a' := ⟨a.src, a.dst, k, a.hi, a.loBy, a.hiBy⟩) (f := 2) S64 3 rfl rfl hat67 rfl rfl Try.sizeOf3 ha0 (by decide) rfl ?_
        intro w68 S69 hk70
        refine ⟨hk70, ?_⟩
        refine e_done (by kernel_rfl) ?_
        refine l_index EA rfl (vec_rd (S69.at 3 rfl)) rfl rfl Try.runUnderlying22 Try.sizeOf39 (by omega) hcur1 ?_
        intro b71 o72 hat73 row74
        refine l_x rfl (x_fieldAddr rfl Try.runUnderlying39 rfl Try.sizeOf3 (by decide)) ?_
        refine l_storevi (a' := ⟨a.src, a.dst, k, k, a.loBy, a.hiBy⟩) (f := 3) S69 3 rfl rfl hat73 rfl rfl Try.sizeOf3 hcur1 (by decide) rfl ?_
        intro w75 S76 hk77
        refine l_nil ?_
        refine r_seq ?_
        have ef : (arcs.set i.toNat (⟨a.src, a.dst, k, a.hi, a.loBy, a.hiBy⟩ : Arc)).set i.toNat (⟨a.src, a.dst, k, k, a.loBy, a.hiBy⟩ : Arc) = fix arcs i.toNat k := by rw [List.set_set, fix, ha0]
        have Sf := S76
        rw [ef] at Sf
        refine r_region ?_
        refine l_x rfl (x_load rfl (ld_blks (Sf.blk 2 rfl) Try.isAgg24 Try.sizeOf24 rfl rfl)) ?_
        refine l_call [] [] [_] rfl rfl Try.call43 rfl (c_Some _ _ _ _ (vec_rd (Sf.at 3 rfl))) ?_
        rintro _ w78 ⟨vx5478, x5478, e5478, rfl, hN5478, hl5478, hR5478⟩
        have S79 := Sf.add hl5478 hN5478
        refine l_x rfl (x_mv rfl) ?_
        refine l_x rfl (x_extract rfl rfl) ?_
        refine l_x rfl (x_extract rfl rfl) ?_
        refine l_x rfl (x_as rfl) ?_
        refine l_x rfl (x_as rfl) ?_
        refine l_nil ?_
        refine r_seq ?_
        refine r_region ?_
        refine l_x rfl (x_mv rfl) ?_
        refine l_x rfl (x_mv rfl) ?_
        refine l_x rfl (x_eql rfl rfl) ?_
        refine l_x rfl (x_as rfl) ?_
        refine l_x rfl (x_as rfl) ?_
        refine l_x rfl (x_as rfl) ?_
        refine l_nil ?_
        refine r_ret (rs := [.tmp 6, .tmp 7, .tmp 8]) [_, _, _] Try.func55 rfl ⟨rfl, rfl, rfl, trivial⟩ ?_
        exact ⟨_, _, _, _, rfl, S79.new 4 rfl, S79.le, ThR.of h0 hk hR5478⟩

theorem c_Through2 (N : Int) (va : Value) (arcs : List Arc) (i k : Int) (w : World) (hA : Rd EA w va arcs) :
    Cl Try.prog 55 #[.agg #[.int .i64 N, va], .int .i64 i, .int .i64 k] w fun v w' => (∃ vx x e, v = .tuple #[vx, .bool true, .int .i64 e] ∧ New w w' (vec EI vx x) ∧ Le w w' ∧ ThR N arcs i k x true e) ∨ ∃ vx x e, v = .tuple #[vx, .bool false, .int .i64 e] ∧ New w w' (vec EI vx x) ∧ Le w w' ∧ ThR N arcs i k x false e :=
  (c_Through N va arcs i k w hA).mono fun _ _ ⟨vx, x, is, e, h1, h2, h3, h4⟩ => by
    cases is
    · exact .inr ⟨vx, x, e, h1, h2, h3, h4⟩
    · exact .inl ⟨vx, x, e, h1, h2, h3, h4⟩

/-- couchant/flow.Without$1. -/
theorem c_Without1 (r : Int) (b0 : Nat) (w : World) (h0 : Blk w b0 [.int .i64 r] 3) :
    Cl Try.prog 102 #[.pointer (some ⟨b0, 0, none⟩)] w fun v w' => v = .bool (decide (1 ≤ r ∧ r ≤ 1000000)) ∧ Le w w' := by
  refine fn_of_run (args := [_]) 4 Try.func102 rfl rfl rfl fun cs => ?_
  have S := Own.start (X := nob) w
  refine r_seq ?_
  refine r_region ?_
  refine l_x rfl (x_as rfl) ?_
  refine l_nil ?_
  refine r_seq ?_
  refine r_region ?_
  refine l_x rfl (x_load rfl (ld_blk (h0.keep S.le id) Try.isAgg3 rfl)) ?_
  refine l_call [] [] [_, _, _] rfl rfl Try.call64 rfl (c_in _ _ _ _) ?_
  rintro _ w1 ⟨rfl, hl3⟩
  have S2 := S.step hl3
  refine l_x rfl (x_as rfl) ?_
  refine l_nil ?_
  refine r_ret (rs := [.tmp 1]) [_] Try.func102 rfl ⟨rfl, trivial⟩ ?_
  exact ⟨congrArg Value.bool rfl, S2.le⟩

set_option maxHeartbeats 4000000 in
/-- couchant/flow.Without. -/
theorem c_Without (N : Int) (va : Value) (arcs : List Arc) (r : Int) (w : World) (hA : Rd EA w va arcs) :
    Cl Try.prog 45 #[.agg #[.int .i64 N, va], .int .i64 r] w fun v w' => ∃ vh, v = .tuple #[.agg #[.int .i64 (if wotE N arcs r = 0 then N else 0), vh], .int .i64 (wotE N arcs r)] ∧ New w w' (vec EA vh (if wotE N arcs r = 0 then wot arcs r else [])) ∧ Le w w' := by
  refine fn_of_run (args := [_, _]) 59 Try.func45 rfl rfl rfl fun cs => ?_
  have S := Own.start (X := nob) w
  refine r_seq ?_
  refine r_region ?_
  refine l_box S rfl rfl ?_
  intro b4 w1 S2 hl3
  refine l_box S2 rfl rfl ?_
  intro b8 w5 S6 hl7
  refine l_alloc S6 rfl Try.zeroValue24 rfl ?_
  intro b12 w9 S10 hl11
  refine l_x rfl (x_as rfl) ?_
  refine l_nil ?_
  refine r_seq ?_
  refine r_seq ?_
  refine r_region ?_
  refine l_x rfl (x_load rfl (ld_blks (S10.blk 0 rfl) Try.isAgg24 Try.sizeOf24 rfl rfl)) ?_
  refine l_x rfl (x_func rfl rfl) ?_
  refine l_call [] [] [_, _] rfl rfl Try.call62 rfl (c_asked N va arcs (decide (1 ≤ r ∧ r ≤ 1000000)) 102 [_] _ (hA.le S10.le) Try.call102 (fun hv w1 h1 => c_Without1 r _ w1 ((S10.blk 1 rfl).keep h1 id))) ?_
  rintro _ w13 ⟨rfl, hl15⟩
  have S14 := S10.step hl15
  refine l_x rfl (x_as rfl) ?_
  refine l_nil ?_
  refine r_seq ?_
  refine r_region ?_
  refine l_x rfl (x_mv rfl) ?_
  refine l_x rfl (x_neq rfl rfl) ?_
  refine l_nil ?_
  refine r_ifd rfl (fun hc14 => ?_) (fun hc14 => ?_)
  · skip
    change ¬ wotE N arcs r = 0 at hc14
    refine r_seq ?_
    refine r_region ?_
    refine l_x rfl (x_buildS (out := [_, _]) (ss := [1, 1]) Try.zeroValue24 rfl Try.runUnderlying24 ⟨Try.sizeOf3, Try.sizeOf22, trivial⟩ fill_nil) ?_
    refine l_x rfl (x_mv rfl) ?_
    refine l_stores (vs := [_, _]) S14 2 rfl rfl rfl rfl (ones_cons rfl (ones_cons rfl ones_nil)) Try.sizeOf24 (by first | exact Nat.le_refl _ | simp) (splice_all rfl) ?_
    intro w16 S17 hk18
    refine l_x rfl (x_as rfl) ?_
    refine l_nil ?_
    refine r_ret (rs := [.cell 4 24, .tmp 5]) [_, _] Try.func45 rfl ⟨⟨_, rfl, (ld_blks (S17.blk 2 rfl) Try.isAgg24 Try.sizeOf24 rfl rfl)⟩, rfl, trivial⟩ ?_
    exact ⟨.slice none 0 0, by rw [if_neg hc14]; rfl, by rw [if_neg hc14]; exact New.nilvec .., S17.le⟩
  · skip
    have h0 : wotE N arcs r = 0 := Decidable.not_not.1 hc14
    obtain ⟨hV, hr0⟩ := wotE_zero.1 h0
    have hLx := hV.len
    refine r_skip ?_
    refine r_seq ?_
    refine r_drawE 7 nob Try.mixed (by kernel_rfl) ?_
    intro w19 hl20
    have S21 := S14.step hl20
    refine e_exact 0 _ (by kernel_rfl) rfl rfl (by kernel_rfl) rfl (ex_x rfl (fun w1 h1 => x_fieldAddr rfl Try.runUnderlying24 rfl Try.sizeOf3 (by decide))) ?_
    refine e_exact 1 _ (by kernel_rfl) rfl rfl (by kernel_rfl) rfl (ex_x rfl (fun w1 h1 => x_load rfl (ld_blk ((S21.step h1).blk 0 rfl) Try.isAgg3 rfl))) ?_
    refine e_exact 2 _ (by kernel_rfl) rfl rfl (by kernel_rfl) rfl (ex_x rfl (fun w1 h1 => x_fieldAddr rfl Try.runUnderlying24 rfl Try.sizeOf22 (by decide))) ?_
    refine e_exact 3 _ (by kernel_rfl) rfl rfl (by kernel_rfl) rfl (ex_x rfl (fun w1 h1 => x_load rfl (ld_blk ((S21.step h1).blk 0 rfl) Try.isAgg22 rfl))) ?_
    refine e_next [4, 6] (by kernel_rfl) (by kernel_rfl) ⟨⟨_, _, rfl, rfl, ?_⟩, ⟨_, _, rfl, rfl, ?_⟩, trivial⟩
    · skip
      refine s_callf [] [] [_] rfl rfl Try.call65 rfl ((c_copiedA _ _ (by omega) _ (hA.le S21.le)).mono ?_)
      rintro v2122 w22 ⟨hN2122, hl2122⟩
      have S23 := S21.add hl2122 hN2122
      refine ⟨.of_le hl2122, ?_⟩
      refine e_exact 5 _ (by kernel_rfl) rfl rfl (by kernel_rfl) rfl (ex_x rfl (fun w1 h1 => x_buildS (out := [_, _]) (ss := [1, 1]) Try.zeroValue24 rfl Try.runUnderlying24 ⟨Try.sizeOf3, Try.sizeOf22, trivial⟩ (fill_cons rfl rfl rfl (Nat.le_of_ble_eq_true rfl) (fill_cons rfl (Rd.cells (vec_rd (S23.at 3 rfl))) rfl (Nat.le_of_ble_eq_true rfl) fill_nil)))) ?_
      refine e_next [6] (by kernel_rfl) (by kernel_rfl) ⟨⟨_, _, rfl, rfl, ?_⟩, trivial⟩
      refine s_alloc S23 rfl Try.zeroValue24 rfl ?_
      intro b27 w24 S25 hl26
      refine ⟨.of_le hl26, ?_⟩
      refine e_done (by kernel_rfl) ?_
      refine l_stores (vs := [_, _]) S25 4 rfl rfl rfl rfl (ones_cons rfl (ones_cons (Rd.one (vec_rd (S25.at 3 rfl))) ones_nil)) Try.sizeOf24 (by first | exact Nat.le_refl _ | simp) (splice_all rfl) ?_
      intro w28 S29 hk30
      refine l_nil ?_
      refine r_seq ?_
      refine r_seq ?_
      refine r_region ?_
      refine l_x rfl (x_fieldAddr rfl Try.runUnderlying24 rfl Try.sizeOf22 (by decide)) ?_
      refine l_x rfl (x_load rfl (ld_blk (S29.blk 4 rfl) Try.isAgg22 rfl)) ?_
      refine l_x rfl (x_len (vec_rd (S29.at 3 rfl)) rfl Try.runUnderlying22) ?_
      refine l_x rfl (x_mv rfl) ?_
      refine l_nil ?_
      refine r_block ?_
      refine r_loop (G := Nat) (fun i => arcs.length - i) (fun i => [(2, .pointer (some ⟨b4, 0, none⟩)), (3, .pointer (some ⟨b8, 0, none⟩)), (4, .pointer (some ⟨b12, 0, none⟩)), (7, .pointer (some ⟨b27, 0, none⟩)), (26, .int .i64 i), (25, .int .i64 arcs.length)]) (fun i w' => (i ≤ arcs.length) ∧ Own nob w w' [blk b4 [.int .i64 N, va] 24, blk b8 [.int .i64 r] 3, blk b12 [.int .i64 0, .slice none 0 0] 24, vec EA v2122 (prm (wot1 r) arcs i), blk b27 [.int .i64 N, v2122] 24]) 0 ⟨rfl, rfl, rfl, rfl, rfl, rfl, trivial⟩ ⟨Nat.zero_le _, (by rw [prm_zero]; exact S29)⟩ ?_
      rintro i ρ w1 ⟨hi, S1⟩ IH
      refine r_seq ?_
      refine r_region ?_
      refine l_x rfl (x_lss rfl rfl) ?_
      refine l_nil ?_
      refine r_seq ?_
      refine r_ifd rfl (fun hc27 => ?_) (fun hc27 => ?_)
      · skip
        obtain ⟨a, ha⟩ : ∃ a, arcs[i]? = some a := ⟨_, List.getElem?_eq_getElem (by omega)⟩
        refine r_skip ?_
        refine r_seq ?_
        refine r_block ?_
        refine r_seq ?_
        refine r_region ?_
        refine l_x rfl (x_mv rfl) ?_
        refine l_x rfl (x_as rfl) ?_
        refine l_nil ?_
        refine r_seq ?_
        refine r_region ?_
        refine l_x rfl (x_fieldAddr rfl Try.runUnderlying24 rfl Try.sizeOf22 (by decide)) ?_
        refine l_x rfl (x_load rfl (ld_blk (S1.blk 4 rfl) Try.isAgg22 rfl)) ?_
        refine l_x rfl (x_mv rfl) ?_
        refine l_index EA rfl (vec_rd (S1.at 3 rfl)) rfl rfl Try.runUnderlying22 Try.sizeOf39 (by omega) (prm_get ha) ?_
        intro b31 o32 hat33 row34
        refine l_x rfl (x_as rfl) ?_
        refine l_nil ?_
        refine r_seq ?_
        refine r_seq ?_
        have hcur := prm_get (f := wot1 r) ha
        refine r_drawR 6 Try.mixed (by kernel_rfl) ?_
        refine w_x rfl (fun w1 h1 => x_mv rfl) ?_
        refine w_x rfl (fun w1 h1 => x_nilCheck rfl) ?_
        refine w_x rfl (fun w1 h1 => x_fieldAddr rfl Try.runUnderlying39 rfl Try.sizeOf3 (by decide)) ?_
        refine w_x rfl (fun w1 h1 => x_load rfl (ld_cell Try.isAgg3 ((rd_row (vec_rd ((S1.step h1).at 3 rfl)) hat33 hcur) 4 _ rfl))) ?_
        refine w_x rfl (fun w1 h1 => x_load rfl (ld_blk ((S1.step h1).blk 1 rfl) Try.isAgg3 rfl)) ?_
        refine w_x rfl (fun w1 h1 => x_eql rfl rfl) ?_
        refine w_nil ?_
        intro w35 hl36
        have S37 := S1.step hl36
        refine l_nil ?_
        refine r_ifd rfl (fun hc38 => ?_) (fun hc38 => ?_)
        · skip
          refine r_region ?_
          refine l_x rfl (x_mv rfl) ?_
          refine l_x rfl (x_mv rfl) ?_
          refine l_x rfl (x_nilCheck rfl) ?_
          refine l_x rfl (x_fieldAddr rfl Try.runUnderlying39 rfl Try.sizeOf3 (by decide)) ?_
          refine l_storevi (a' := ⟨a.src, a.dst, 0, a.hi, a.loBy, a.hiBy⟩) (f := 2) S37 3 rfl rfl hat33 rfl rfl Try.sizeOf3 (prm_get ha) (by decide) rfl ?_
          intro w38 S39 hk40
          refine l_x rfl (x_nilCheck rfl) ?_
          refine l_x rfl (x_fieldAddr rfl Try.runUnderlying39 rfl Try.sizeOf3 (by decide)) ?_
          refine l_storevi (a' := ⟨a.src, a.dst, 0, a.hi, 0, a.hiBy⟩) (f := 4) S39 3 rfl rfl hat33 rfl rfl Try.sizeOf3 (set_get (prm_get ha)) (by decide) rfl ?_
          intro w41 S42 hk43
          refine l_nil ?_
          refine r_seq ?_
          have hcur : (((prm (wot1 r) arcs i).set ((i : Nat) : Int).toNat ⟨a.src, a.dst, 0, a.hi, a.loBy, a.hiBy⟩).set ((i : Nat) : Int).toNat ⟨a.src, a.dst, 0, a.hi, 0, a.hiBy⟩)[((i : Nat) : Int).toNat]? = some ⟨a.src, a.dst, 0, a.hi, 0, a.hiBy⟩ := set_get (set_get (prm_get ha))
          refine r_drawR 6 Try.mixed (by kernel_rfl) ?_
          refine w_x rfl (fun w1 h1 => x_mv rfl) ?_
          refine w_x rfl (fun w1 h1 => x_nilCheck rfl) ?_
          refine w_x rfl (fun w1 h1 => x_fieldAddr rfl Try.runUnderlying39 rfl Try.sizeOf3 (by decide)) ?_
          refine w_x rfl (fun w1 h1 => x_load rfl (ld_cell Try.isAgg3 ((rd_row (vec_rd ((S42.step h1).at 3 rfl)) hat33 hcur) 5 _ rfl))) ?_
          refine w_x rfl (fun w1 h1 => x_load rfl (ld_blk ((S42.step h1).blk 1 rfl) Try.isAgg3 rfl)) ?_
          refine w_x rfl (fun w1 h1 => x_eql rfl rfl) ?_
          refine w_nil ?_
          intro w44 hl45
          have S46 := S42.step hl45
          refine l_nil ?_
          refine r_ifd rfl (fun hc50 => ?_) (fun hc50 => ?_)
          · skip
            
            refine r_region ?_
            refine l_x rfl (x_mv rfl) ?_
            refine l_x rfl (x_mv rfl) ?_
            refine l_x rfl (x_nilCheck rfl) ?_
            refine l_x rfl (x_fieldAddr rfl Try.runUnderlying39 rfl Try.sizeOf3 (by decide)) ?_
            refine l_storevi (a' := ⟨a.src, a.dst, 0, 1000000, 0, a.hiBy⟩) (f := 3) S46 3 rfl rfl hat33 rfl rfl Try.sizeOf3 hcur (by decide) rfl ?_
            intro w47 S48 hk49
            refine l_x rfl (x_nilCheck rfl) ?_
            refine l_x rfl (x_fieldAddr rfl Try.runUnderlying39 rfl Try.sizeOf3 (by decide)) ?_
            refine l_storevi (a' := ⟨a.src, a.dst, 0, 1000000, 0, 0⟩) (f := 5) S48 3 rfl rfl hat33 rfl rfl Try.sizeOf3 (set_get hcur) (by decide) rfl ?_
            intro w50 S51 hk52
            refine l_nil ?_
            refine r_inBlock ?_
            refine r_region ?_
            refine l_x rfl (x_add rfl rfl (by omega)) ?_
            refine l_x rfl (x_mv rfl) ?_
            refine l_nil ?_
            exact IH (i + 1) _ _ (by omega) ⟨rfl, rfl, rfl, rfl, rfl, rfl, trivial⟩ ⟨by omega, (by rw [← prm_step ha, wot11 hc38 hc50]; have hS := S51.take 6; rw [List.set_set (α := Arc), List.set_set (α := Arc), List.set_set (α := Arc)] at hS; exact hS)⟩
          · skip
            refine r_skip ?_
            refine r_inBlock ?_
            refine r_region ?_
            refine l_x rfl (x_add rfl rfl (by omega)) ?_
            refine l_x rfl (x_mv rfl) ?_
            refine l_nil ?_
            exact IH (i + 1) _ _ (by omega) ⟨rfl, rfl, rfl, rfl, rfl, rfl, trivial⟩ ⟨by omega, (by rw [← prm_step ha, wot10 hc38 hc50]; have hS := S46.take 6; rw [List.set_set (α := Arc)] at hS; exact hS)⟩
        · skip
          refine r_skip ?_
          refine r_seq ?_
          
          refine r_drawR 6 Try.mixed (by kernel_rfl) ?_
          refine w_x rfl (fun w1 h1 => x_mv rfl) ?_
          refine w_x rfl (fun w1 h1 => x_nilCheck rfl) ?_
          refine w_x rfl (fun w1 h1 => x_fieldAddr rfl Try.runUnderlying39 rfl Try.sizeOf3 (by decide)) ?_
          refine w_x rfl (fun w1 h1 => x_load rfl (ld_cell Try.isAgg3 ((rd_row (vec_rd ((S37.step h1).at 3 rfl)) hat33 hcur) 5 _ rfl))) ?_
          refine w_x rfl (fun w1 h1 => x_load rfl (ld_blk ((S37.step h1).blk 1 rfl) Try.isAgg3 rfl)) ?_
          refine w_x rfl (fun w1 h1 => x_eql rfl rfl) ?_
          refine w_nil ?_
          intro w53 hl54
          have S55 := S37.step hl54
          refine l_nil ?_
          refine r_ifd rfl (fun hc50 => ?_) (fun hc50 => ?_)
          · skip
            
            refine r_region ?_
            refine l_x rfl (x_mv rfl) ?_
            refine l_x rfl (x_mv rfl) ?_
            refine l_x rfl (x_nilCheck rfl) ?_
            refine l_x rfl (x_fieldAddr rfl Try.runUnderlying39 rfl Try.sizeOf3 (by decide)) ?_
            refine l_storevi (a' := ⟨a.src, a.dst, a.lo, 1000000, a.loBy, a.hiBy⟩) (f := 3) S55 3 rfl rfl hat33 rfl rfl Try.sizeOf3 hcur (by decide) rfl ?_
            intro w56 S57 hk58
            refine l_x rfl (x_nilCheck rfl) ?_
            refine l_x rfl (x_fieldAddr rfl Try.runUnderlying39 rfl Try.sizeOf3 (by decide)) ?_
            refine l_storevi (a' := ⟨a.src, a.dst, a.lo, 1000000, a.loBy, 0⟩) (f := 5) S57 3 rfl rfl hat33 rfl rfl Try.sizeOf3 (set_get hcur) (by decide) rfl ?_
            intro w59 S60 hk61
            refine l_nil ?_
            refine r_inBlock ?_
            refine r_region ?_
            refine l_x rfl (x_add rfl rfl (by omega)) ?_
            refine l_x rfl (x_mv rfl) ?_
            refine l_nil ?_
            exact IH (i + 1) _ _ (by omega) ⟨rfl, rfl, rfl, rfl, rfl, rfl, trivial⟩ ⟨by omega, (by rw [← prm_step ha, wot01 hc38 hc50]; have hS := S60.take 6; rw [List.set_set (α := Arc)] at hS; exact hS)⟩
          · skip
            refine r_skip ?_
            refine r_inBlock ?_
            refine r_region ?_
            refine l_x rfl (x_add rfl rfl (by omega)) ?_
            refine l_x rfl (x_mv rfl) ?_
            refine l_nil ?_
            exact IH (i + 1) _ _ (by omega) ⟨rfl, rfl, rfl, rfl, rfl, rfl, trivial⟩ ⟨by omega, (by rw [← prm_step ha, wot00 hc38 hc50, set_same (prm_get ha)]; exact S55.take 6)⟩
      · skip
        have hie : i = arcs.length := by omega
        subst hie
        refine r_exit rfl ?_
        refine r_seq ?_
        refine r_region ?_
        refine l_x rfl (x_load rfl (ld_blks (S1.blk 4 rfl) Try.isAgg24 Try.sizeOf24 rfl rfl)) ?_
        refine l_stores (vs := [_, _]) S1 2 rfl rfl rfl rfl (ones_cons rfl (ones_cons (Rd.one (vec_rd (S1.at 3 rfl))) ones_nil)) Try.sizeOf24 (by first | exact Nat.le_refl _ | simp) (splice_all rfl) ?_
        intro w62 S63 hk64
        refine l_x rfl (x_as rfl) ?_
        refine l_nil ?_
        refine r_ret (rs := [.cell 4 24, .tmp 5]) [_, _] Try.func45 rfl ⟨⟨_, rfl, (ld_blks (S63.blk 2 rfl) Try.isAgg24 Try.sizeOf24 rfl rfl)⟩, rfl, trivial⟩ ?_
        exact ⟨v2122, by rw [if_pos h0, h0]; rfl, by rw [if_pos h0]; have hS := S63; rw [prm_full] at hS; exact hS.new 3 rfl, S63.le⟩
    · skip
      refine s_alloc S21 rfl Try.zeroValue24 rfl ?_
      intro b68 w65 S66 hl67
      refine ⟨.of_le hl67, ?_⟩
      refine e_next [4] (by kernel_rfl) (by kernel_rfl) ⟨⟨_, _, rfl, rfl, ?_⟩, trivial⟩
      refine s_callf [] [] [_] rfl rfl Try.call65 rfl ((c_copiedA _ _ (by omega) _ (hA.le S66.le)).mono ?_)
      rintro v2169 w69 ⟨hN2169, hl2169⟩
      have S70 := S66.add hl2169 hN2169
      refine ⟨.of_le hl2169, ?_⟩
      refine e_exact 5 _ (by kernel_rfl) rfl rfl (by kernel_rfl) rfl (ex_x rfl (fun w1 h1 => x_buildS (out := [_, _]) (ss := [1, 1]) Try.zeroValue24 rfl Try.runUnderlying24 ⟨Try.sizeOf3, Try.sizeOf22, trivial⟩ (fill_cons rfl rfl rfl (Nat.le_of_ble_eq_true rfl) (fill_cons rfl (Rd.cells (vec_rd (S70.at 4 rfl))) rfl (Nat.le_of_ble_eq_true rfl) fill_nil)))) ?_
      refine e_done (by kernel_rfl) ?_
      refine l_stores (vs := [_, _]) S70 3 rfl rfl rfl rfl (ones_cons rfl (ones_cons (Rd.one (vec_rd (S70.at 4 rfl))) ones_nil)) Try.sizeOf24 (by first | exact Nat.le_refl _ | simp) (splice_all rfl) ?_
      intro w71 S72 hk73
      refine l_nil ?_
      refine r_seq ?_
      refine r_seq ?_
      refine r_region ?_
      refine l_x rfl (x_fieldAddr rfl Try.runUnderlying24 rfl Try.sizeOf22 (by decide)) ?_
      refine l_x rfl (x_load rfl (ld_blk (S72.blk 3 rfl) Try.isAgg22 rfl)) ?_
      refine l_x rfl (x_len (vec_rd (S72.at 4 rfl)) rfl Try.runUnderlying22) ?_
      refine l_x rfl (x_mv rfl) ?_
      refine l_nil ?_
      refine r_block ?_
      refine r_loop (G := Nat) (fun i => arcs.length - i) (fun i => [(2, .pointer (some ⟨b4, 0, none⟩)), (3, .pointer (some ⟨b8, 0, none⟩)), (4, .pointer (some ⟨b12, 0, none⟩)), (7, .pointer (some ⟨b68, 0, none⟩)), (26, .int .i64 i), (25, .int .i64 arcs.length)]) (fun i w' => (i ≤ arcs.length) ∧ Own nob w w' [blk b4 [.int .i64 N, va] 24, blk b8 [.int .i64 r] 3, blk b12 [.int .i64 0, .slice none 0 0] 24, blk b68 [.int .i64 N, v2169] 24, vec EA v2169 (prm (wot1 r) arcs i)]) 0 ⟨rfl, rfl, rfl, rfl, rfl, rfl, trivial⟩ ⟨Nat.zero_le _, (by rw [prm_zero]; exact S72)⟩ ?_
      rintro i ρ w1 ⟨hi, S1⟩ IH
      refine r_seq ?_
      refine r_region ?_
      refine l_x rfl (x_lss rfl rfl) ?_
      refine l_nil ?_
      refine r_seq ?_
      refine r_ifd rfl (fun hc27 => ?_) (fun hc27 => ?_)
      · skip
        obtain ⟨a, ha⟩ : ∃ a, arcs[i]? = some a := ⟨_, List.getElem?_eq_getElem (by omega)⟩
        refine r_skip ?_
        refine r_seq ?_
        refine r_block ?_
        refine r_seq ?_
        refine r_region ?_
        refine l_x rfl (x_mv rfl) ?_
        refine l_x rfl (x_as rfl) ?_
        refine l_nil ?_
        refine r_seq ?_
        refine r_region ?_
        refine l_x rfl (x_fieldAddr rfl Try.runUnderlying24 rfl Try.sizeOf22 (by decide)) ?_
        refine l_x rfl (x_load rfl (ld_blk (S1.blk 3 rfl) Try.isAgg22 rfl)) ?_
        refine l_x rfl (x_mv rfl) ?_
        refine l_index EA rfl (vec_rd (S1.at 4 rfl)) rfl rfl Try.runUnderlying22 Try.sizeOf39 (by omega) (prm_get ha) ?_
        intro b74 o75 hat76 row77
        refine l_x rfl (x_as rfl) ?_
        refine l_nil ?_
        refine r_seq ?_
        refine r_seq ?_
        have hcur := prm_get (f := wot1 r) ha
        refine r_drawR 6 Try.mixed (by kernel_rfl) ?_
        refine w_x rfl (fun w1 h1 => x_mv rfl) ?_
        refine w_x rfl (fun w1 h1 => x_nilCheck rfl) ?_
        refine w_x rfl (fun w1 h1 => x_fieldAddr rfl Try.runUnderlying39 rfl Try.sizeOf3 (by decide)) ?_
        refine w_x rfl (fun w1 h1 => x_load rfl (ld_cell Try.isAgg3 ((rd_row (vec_rd ((S1.step h1).at 4 rfl)) hat76 hcur) 4 _ rfl))) ?_
        refine w_x rfl (fun w1 h1 => x_load rfl (ld_blk ((S1.step h1).blk 1 rfl) Try.isAgg3 rfl)) ?_
        refine w_x rfl (fun w1 h1 => x_eql rfl rfl) ?_
        refine w_nil ?_
        intro w78 hl79
        have S80 := S1.step hl79
        refine l_nil ?_
        refine r_ifd rfl (fun hc38 => ?_) (fun hc38 => ?_)
        · skip
          refine r_region ?_
          refine l_x rfl (x_mv rfl) ?_
          refine l_x rfl (x_mv rfl) ?_
          refine l_x rfl (x_nilCheck rfl) ?_
          refine l_x rfl (x_fieldAddr rfl Try.runUnderlying39 rfl Try.sizeOf3 (by decide)) ?_
          refine l_storevi (a' := ⟨a.src, a.dst, 0, a.hi, a.loBy, a.hiBy⟩) (f := 2) S80 4 rfl rfl hat76 rfl rfl Try.sizeOf3 (prm_get ha) (by decide) rfl ?_
          intro w81 S82 hk83
          refine l_x rfl (x_nilCheck rfl) ?_
          refine l_x rfl (x_fieldAddr rfl Try.runUnderlying39 rfl Try.sizeOf3 (by decide)) ?_
          refine l_storevi (a' := ⟨a.src, a.dst, 0, a.hi, 0, a.hiBy⟩) (f := 4) S82 4 rfl rfl hat76 rfl rfl Try.sizeOf3 (set_get (prm_get ha)) (by decide) rfl ?_
          intro w84 S85 hk86
          refine l_nil ?_
          refine r_seq ?_
          have hcur : (((prm (wot1 r) arcs i).set ((i : Nat) : Int).toNat ⟨a.src, a.dst, 0, a.hi, a.loBy, a.hiBy⟩).set ((i : Nat) : Int).toNat ⟨a.src, a.dst, 0, a.hi, 0, a.hiBy⟩)[((i : Nat) : Int).toNat]? = some ⟨a.src, a.dst, 0, a.hi, 0, a.hiBy⟩ := set_get (set_get (prm_get ha))
          refine r_drawR 6 Try.mixed (by kernel_rfl) ?_
          refine w_x rfl (fun w1 h1 => x_mv rfl) ?_
          refine w_x rfl (fun w1 h1 => x_nilCheck rfl) ?_
          refine w_x rfl (fun w1 h1 => x_fieldAddr rfl Try.runUnderlying39 rfl Try.sizeOf3 (by decide)) ?_
          refine w_x rfl (fun w1 h1 => x_load rfl (ld_cell Try.isAgg3 ((rd_row (vec_rd ((S85.step h1).at 4 rfl)) hat76 hcur) 5 _ rfl))) ?_
          refine w_x rfl (fun w1 h1 => x_load rfl (ld_blk ((S85.step h1).blk 1 rfl) Try.isAgg3 rfl)) ?_
          refine w_x rfl (fun w1 h1 => x_eql rfl rfl) ?_
          refine w_nil ?_
          intro w87 hl88
          have S89 := S85.step hl88
          refine l_nil ?_
          refine r_ifd rfl (fun hc50 => ?_) (fun hc50 => ?_)
          · skip
            
            refine r_region ?_
            refine l_x rfl (x_mv rfl) ?_
            refine l_x rfl (x_mv rfl) ?_
            refine l_x rfl (x_nilCheck rfl) ?_
            refine l_x rfl (x_fieldAddr rfl Try.runUnderlying39 rfl Try.sizeOf3 (by decide)) ?_
            refine l_storevi (a' := ⟨a.src, a.dst, 0, 1000000, 0, a.hiBy⟩) (f := 3) S89 4 rfl rfl hat76 rfl rfl Try.sizeOf3 hcur (by decide) rfl ?_
            intro w90 S91 hk92
            refine l_x rfl (x_nilCheck rfl) ?_
            refine l_x rfl (x_fieldAddr rfl Try.runUnderlying39 rfl Try.sizeOf3 (by decide)) ?_
            refine l_storevi (a' := ⟨a.src, a.dst, 0, 1000000, 0, 0⟩) (f := 5) S91 4 rfl rfl hat76 rfl rfl Try.sizeOf3 (set_get hcur) (by decide) rfl ?_
            intro w93 S94 hk95
            refine l_nil ?_
            refine r_inBlock ?_
            refine r_region ?_
            refine l_x rfl (x_add rfl rfl (by omega)) ?_
            refine l_x rfl (x_mv rfl) ?_
            refine l_nil ?_
            exact IH (i + 1) _ _ (by omega) ⟨rfl, rfl, rfl, rfl, rfl, rfl, trivial⟩ ⟨by omega, (by rw [← prm_step ha, wot11 hc38 hc50]; have hS := S94.take 6; rw [List.set_set (α := Arc), List.set_set (α := Arc), List.set_set (α := Arc)] at hS; exact hS)⟩
          · skip
            refine r_skip ?_
            refine r_inBlock ?_
            refine r_region ?_
            refine l_x rfl (x_add rfl rfl (by omega)) ?_
            refine l_x rfl (x_mv rfl) ?_
            refine l_nil ?_
            exact IH (i + 1) _ _ (by omega) ⟨rfl, rfl, rfl, rfl, rfl, rfl, trivial⟩ ⟨by omega, (by rw [← prm_step ha, wot10 hc38 hc50]; have hS := S89.take 6; rw [List.set_set (α := Arc)] at hS; exact hS)⟩
        · skip
          refine r_skip ?_
          refine r_seq ?_
          
          refine r_drawR 6 Try.mixed (by kernel_rfl) ?_
          refine w_x rfl (fun w1 h1 => x_mv rfl) ?_
          refine w_x rfl (fun w1 h1 => x_nilCheck rfl) ?_
          refine w_x rfl (fun w1 h1 => x_fieldAddr rfl Try.runUnderlying39 rfl Try.sizeOf3 (by decide)) ?_
          refine w_x rfl (fun w1 h1 => x_load rfl (ld_cell Try.isAgg3 ((rd_row (vec_rd ((S80.step h1).at 4 rfl)) hat76 hcur) 5 _ rfl))) ?_
          refine w_x rfl (fun w1 h1 => x_load rfl (ld_blk ((S80.step h1).blk 1 rfl) Try.isAgg3 rfl)) ?_
          refine w_x rfl (fun w1 h1 => x_eql rfl rfl) ?_
          refine w_nil ?_
          intro w96 hl97
          have S98 := S80.step hl97
          refine l_nil ?_
          refine r_ifd rfl (fun hc50 => ?_) (fun hc50 => ?_)
          · skip
            
            refine r_region ?_
            refine l_x rfl (x_mv rfl) ?_
            refine l_x rfl (x_mv rfl) ?_
            refine l_x rfl (x_nilCheck rfl) ?_
            refine l_x rfl (x_fieldAddr rfl Try.runUnderlying39 rfl Try.sizeOf3 (by decide)) ?_
            refine l_storevi (a' := ⟨a.src, a.dst, a.lo, 1000000, a.loBy, a.hiBy⟩) (f := 3) S98 4 rfl rfl hat76 rfl rfl Try.sizeOf3 hcur (by decide) rfl ?_
            intro w99 S100 hk101
            refine l_x rfl (x_nilCheck rfl) ?_
            refine l_x rfl (x_fieldAddr rfl Try.runUnderlying39 rfl Try.sizeOf3 (by decide)) ?_
            refine l_storevi (a' := ⟨a.src, a.dst, a.lo, 1000000, a.loBy, 0⟩) (f := 5) S100 4 rfl rfl hat76 rfl rfl Try.sizeOf3 (set_get hcur) (by decide) rfl ?_
            intro w102 S103 hk104
            refine l_nil ?_
            refine r_inBlock ?_
            refine r_region ?_
            refine l_x rfl (x_add rfl rfl (by omega)) ?_
            refine l_x rfl (x_mv rfl) ?_
            refine l_nil ?_
            exact IH (i + 1) _ _ (by omega) ⟨rfl, rfl, rfl, rfl, rfl, rfl, trivial⟩ ⟨by omega, (by rw [← prm_step ha, wot01 hc38 hc50]; have hS := S103.take 6; rw [List.set_set (α := Arc)] at hS; exact hS)⟩
          · skip
            refine r_skip ?_
            refine r_inBlock ?_
            refine r_region ?_
            refine l_x rfl (x_add rfl rfl (by omega)) ?_
            refine l_x rfl (x_mv rfl) ?_
            refine l_nil ?_
            exact IH (i + 1) _ _ (by omega) ⟨rfl, rfl, rfl, rfl, rfl, rfl, trivial⟩ ⟨by omega, (by rw [← prm_step ha, wot00 hc38 hc50, set_same (prm_get ha)]; exact S98.take 6)⟩
      · skip
        have hie : i = arcs.length := by omega
        subst hie
        refine r_exit rfl ?_
        refine r_seq ?_
        refine r_region ?_
        refine l_x rfl (x_load rfl (ld_blks (S1.blk 3 rfl) Try.isAgg24 Try.sizeOf24 rfl rfl)) ?_
        refine l_stores (vs := [_, _]) S1 2 rfl rfl rfl rfl (ones_cons rfl (ones_cons (Rd.one (vec_rd (S1.at 4 rfl))) ones_nil)) Try.sizeOf24 (by first | exact Nat.le_refl _ | simp) (splice_all rfl) ?_
        intro w105 S106 hk107
        refine l_x rfl (x_as rfl) ?_
        refine l_nil ?_
        refine r_ret (rs := [.cell 4 24, .tmp 5]) [_, _] Try.func45 rfl ⟨⟨_, rfl, (ld_blks (S106.blk 2 rfl) Try.isAgg24 Try.sizeOf24 rfl rfl)⟩, rfl, trivial⟩ ?_
        exact ⟨v2169, by rw [if_pos h0, h0]; rfl, by rw [if_pos h0]; have hS := S106; rw [prm_full] at hS; exact hS.new 4 rfl, S106.le⟩

end Go.Proofs

/-
  Contracts of functions of the program: each by symbolic execution of its text.
-/
namespace Go.Proofs
open Go Go.Vk Go.Vk.Flow

theorem c_rUnitOk (N : Int) (va : Value) (arcs : List Arc) (i k : Int) (hm : arcs.length ≤ 100000) (hi : 0 ≤ i ∧ i < arcs.length) (w : World) (hA : Rd EA w va arcs) :
    Cl Try.prog 56 #[.agg #[.int .i64 N, va], .int .i64 i, .int .i64 k] w fun v w' => New w w' (vec EI v (unit arcs.length i.toNat k)) ∧ Le w w' :=
  (c_rUnit N va arcs i k hm w hA).mono fun _ _ ⟨h1, h2⟩ => ⟨by rw [unitv, if_pos hi] at h1; exact h1, h2⟩
theorem c_Without2 (N : Int) (va : Value) (arcs : List Arc) (r : Int) (w : World) (hA : Rd EA w va arcs) :
    Cl Try.prog 45 #[.agg #[.int .i64 N, va], .int .i64 r] w fun v w' =>
      (∃ vh, v = .tuple #[.agg #[.int .i64 N, vh], .int .i64 0] ∧ New w w' (vec EA vh (wot arcs r)) ∧ Le w w' ∧ wotE N arcs r = 0) ∨
      (∃ vh e, v = .tuple #[.agg #[.int .i64 0, vh], .int .i64 e] ∧ New w w' (vec EA vh []) ∧ Le w w' ∧ e = wotE N arcs r ∧ ¬ e = 0) := by
  refine (c_Without N va arcs r w hA).mono fun _ _ ⟨vh, h1, h2, h3⟩ => ?_
  by_cases h0 : wotE N arcs r = 0
  · exact .inl ⟨vh, by rw [h1, if_pos h0, h0], by rw [if_pos h0] at h2; exact h2, h3, h0⟩
  · exact .inr ⟨vh, _, by rw [h1, if_neg h0], by rw [if_neg h0] at h2; exact h2, h3, rfl, h0⟩
theorem no_step {l : List Int} {n x : Int} {i : Nat} (h : ¬ n ∈ l.take i) (hx : l[i]? = some x) (hn : ¬ x = n) : ¬ n ∈ l.take (i + 1) := by
  rw [List.take_add_one, hx]
  intro hh
  rcases List.mem_append.1 hh with h1 | h1
  · exact h h1
  · simp at h1; exact hn h1.symm

/-- couchant/couchantlaw06.has. -/
theorem c_has (vl : Value) (l : List Int) (n : Int) (hm : l.length ≤ 9223372036854775807) (w : World) (hL : Rd EI w vl l) :
    Cl Try.prog 46 #[vl, .int .i64 n] w fun v w' => v = .bool (decide (n ∈ l)) ∧ Le w w' := by
  refine fn_of_run (args := [_, _]) 18 Try.func46 rfl rfl rfl fun cs => ?_
  have S := Own.start (X := nob) w
  refine r_seq ?_
  refine r_region ?_
  refine l_x rfl (x_as rfl) ?_
  refine l_nil ?_
  refine r_seq ?_
  refine r_seq ?_
  refine r_region ?_
  refine l_x rfl (x_as rfl) ?_
  refine l_nil ?_
  refine r_block ?_
  refine r_loop (G := Nat) (fun i => l.length - i) (fun i => [(0, vl), (1, .int .i64 n), (5, .int .i64 i)]) (fun i w' => (i ≤ l.length) ∧ (¬ n ∈ l.take i) ∧ Own nob w w' []) 0 ⟨rfl, rfl, rfl, trivial⟩ ⟨Nat.zero_le _, by simp, S⟩ ?_
  rintro i ρ w1 ⟨hi, hno, S1⟩ IH
  refine r_seq ?_
  refine r_seq ?_
  refine r_region ?_
  refine l_x rfl (x_mv rfl) ?_
  refine l_x rfl (x_mv rfl) ?_
  refine l_x rfl (x_len (hL.le S1.le) rfl Try.runUnderlying25) ?_
  refine l_x rfl (x_lss rfl rfl) ?_
  refine l_nil ?_
  refine r_ifd rfl (fun hc9 => ?_) (fun hc9 => ?_)
  · skip
    obtain ⟨x, hx⟩ : ∃ x, l[i]? = some x := ⟨_, List.getElem?_eq_getElem (by omega)⟩
    refine r_skip ?_
    refine r_seq ?_
    refine r_block ?_
    refine r_seq ?_
    refine r_region ?_
    refine l_x rfl (x_mv rfl) ?_
    refine l_x rfl (x_mv rfl) ?_
    refine l_index EI rfl (hL.le S1.le) rfl rfl Try.runUnderlying25 Try.sizeOf3 (by omega) (by first | assumption | exact List.getElem?_eq_getElem (by omega)) ?_
    intro b1 o2 hat3 row4
    refine l_x rfl (x_load rfl (ld_cell Try.isAgg3 (row4 0 _ rfl))) ?_
    refine l_x rfl (x_mv rfl) ?_
    refine l_x rfl (x_eql rfl rfl) ?_
    refine l_nil ?_
    refine r_ifd rfl (fun hc17 => ?_) (fun hc17 => ?_)
    · skip
      refine r_seq ?_
      refine r_region ?_
      refine l_x rfl (x_as rfl) ?_
      refine l_nil ?_
      refine r_ret (rs := [.tmp 4]) [_] Try.func46 rfl ⟨rfl, trivial⟩ ?_
      exact ⟨congrArg Value.bool (decide_eq_true (hc17 ▸ List.mem_of_getElem? hx)).symm, S1.le⟩
    · skip
      refine r_skip ?_
      refine r_inBlock ?_
      refine r_region ?_
      refine l_x rfl (x_mv rfl) ?_
      refine l_x rfl (x_add rfl rfl (by omega)) ?_
      refine l_x rfl (x_as rfl) ?_
      refine l_nil ?_
      exact IH (i + 1) _ _ (by omega) ⟨rfl, rfl, rfl, trivial⟩ ⟨by omega, no_step hno hx hc17, S1⟩
  · skip
    have hie : i = l.length := by omega
    subst hie
    rw [List.take_length] at hno
    refine r_exit rfl ?_
    refine r_seq ?_
    refine r_region ?_
    refine l_x rfl (x_as rfl) ?_
    refine l_nil ?_
    refine r_ret (rs := [.tmp 4]) [_] Try.func46 rfl ⟨rfl, trivial⟩ ?_
    exact ⟨congrArg Value.bool (decide_eq_false hno).symm, S1.le⟩

end Go.Proofs

/-
  Contracts of functions of the program: each by symbolic execution of its text.
-/
namespace Go.Proofs
open Go Go.Vk Go.Vk.Flow

theorem own_cast {X : Nat → Prop} {w w' : World} {v : Value} {a b : List Int} (e : a = b) (h : Own X w w' [vec EI v b]) : Own X w w' [vec EI v a] := by subst e; exact h

set_option maxHeartbeats 2000000 in
/-- couchant/couchantref06.put. -/
theorem c_rput0 (vl : Value) (l L : List Int) (n : Int) (hl : l = lst L) (hn : 0 ≤ n) (hm : L.length ≤ 1000000) (w : World) (S : Own (vec EI vl l).fp w w [vec EI vl l]) :
    Cl Try.prog 82 #[vl, .int .i64 n] w fun v w' => Own (vec EI vl l).fp w w' [vec EI v (lst (L ++ [n]))] := by
  have hls : l.length ≤ L.length := hl ▸ lst_len L
  refine fn_of_run (args := [_, _]) 51 Try.func82 rfl rfl rfl fun cs => ?_
  refine r_seq ?_
  refine r_region ?_
  refine l_x rfl (x_as rfl) ?_
  refine l_nil ?_
  refine r_seq ?_
  refine r_seq ?_
  refine r_region ?_
  refine l_x rfl (x_mv rfl) ?_
  refine l_x rfl (x_leq rfl rfl) ?_
  refine l_nil ?_
  refine r_ifd rfl (fun hc8 => ?_) (fun hc8 => ?_)
  · skip
    refine r_seq ?_
    refine r_region ?_
    refine l_x rfl (x_mv rfl) ?_
    refine l_x rfl (x_as rfl) ?_
    refine l_nil ?_
    refine r_ret (rs := [.tmp 4]) [_] Try.func82 rfl ⟨rfl, trivial⟩ ?_
    exact own_cast ((lst_zero (by omega)).trans hl.symm) S
  · skip
    refine r_skip ?_
    refine r_seq ?_
    refine r_region ?_
    refine l_x rfl (x_mv rfl) ?_
    refine l_x rfl (x_len (vec_rd (S.at 0 rfl)) rfl Try.runUnderlying25) ?_
    refine l_x rfl (x_as rfl) ?_
    refine l_nil ?_
    refine r_seq ?_
    refine r_block ?_
    refine r_loop (G := Nat) (fun i => i) (fun i => [(0, vl), (1, .int .i64 n), (5, .int .i64 i)]) (fun i w' => (i ≤ l.length) ∧ (∀ x ∈ l.drop i, n < x) ∧ Own (vec EI vl l).fp w w' [vec EI vl l]) l.length ⟨rfl, rfl, rfl, trivial⟩ ⟨Nat.le_refl _, by simp, S⟩ ?_
    rintro i ρ w1 ⟨hi, hgt, S1⟩ IH
    refine r_seq ?_
    refine r_seq ?_
    refine r_region ?_
    refine l_x rfl (x_mv rfl) ?_
    refine l_x rfl (x_gtr rfl rfl) ?_
    refine l_x rfl (x_mv rfl) ?_
    refine l_splitd (d := 14) rfl (fun hg14 => ?_) (fun hg14 => ?_)
    · skip
      obtain ⟨x, hx⟩ : ∃ x, l[((i:Int) - 1).toNat]? = some x := ⟨_, List.getElem?_eq_getElem (by omega)⟩
      have hx' : l[i - 1]? = some x := by rw [← hx]; congr 1; omega
      refine l_x rfl (x_mv rfl) ?_
      refine l_x rfl (x_mv rfl) ?_
      refine l_x rfl (x_sub rfl rfl (by omega)) ?_
      refine l_index EI rfl (vec_rd (S1.at 0 rfl)) rfl rfl Try.runUnderlying25 Try.sizeOf3 (by omega) hx ?_
      intro b1 o2 hat3 row4
      refine l_x rfl (x_load rfl (ld_cell Try.isAgg3 (row4 0 _ rfl))) ?_
      refine l_x rfl (x_mv rfl) ?_
      refine l_x rfl (x_gtr rfl rfl) ?_
      refine l_x rfl (x_pick_t rfl rfl) ?_
      refine l_nil ?_
      refine r_ifd rfl (fun hc22 => ?_) (fun hc22 => ?_)
      · skip
        refine r_skip ?_
        refine r_block ?_
        refine r_region ?_
        refine l_x rfl (x_mv rfl) ?_
        refine l_x rfl (x_sub rfl rfl (by omega)) ?_
        refine l_x rfl (x_as rfl) ?_
        refine l_nil ?_
        refine r_inBlock ?_
        exact IH (i - 1) _ _ (by omega) ⟨rfl, rfl, (congrArg (Value.int .i64) (by omega : (i:Int) - 1 = ((i - 1 : Nat) : Int))), trivial⟩ ⟨by omega, drop_gt hgt hx' (by omega) hc22, S1⟩
      · skip
        refine r_exit rfl ?_
        refine r_seq ?_
        refine r_seq ?_
        refine r_region ?_
        refine l_x rfl (x_mv rfl) ?_
        refine l_x rfl (x_gtr rfl rfl) ?_
        refine l_x rfl (x_mv rfl) ?_
        refine l_splitd (d := 27) rfl (fun hg27 => ?_) (fun hg27 => ?_)
        · skip
          refine l_x rfl (x_mv rfl) ?_
          refine l_x rfl (x_mv rfl) ?_
          refine l_x rfl (x_sub rfl rfl (by omega)) ?_
          refine l_index EI rfl (vec_rd (S1.at 0 rfl)) rfl rfl Try.runUnderlying25 Try.sizeOf3 (by omega) hx ?_
          intro b5 o6 hat7 row8
          refine l_x rfl (x_load rfl (ld_cell Try.isAgg3 (row8 0 _ rfl))) ?_
          refine l_x rfl (x_mv rfl) ?_
          refine l_x rfl (x_eql rfl rfl) ?_
          refine l_x rfl (x_pick_t rfl rfl) ?_
          refine l_nil ?_
          refine r_ifd rfl (fun hc35 => ?_) (fun hc35 => ?_)
          · skip
            refine r_seq ?_
            refine r_region ?_
            refine l_x rfl (x_mv rfl) ?_
            refine l_x rfl (x_as rfl) ?_
            refine l_nil ?_
            refine r_ret (rs := [.tmp 4]) [_] Try.func82 rfl ⟨rfl, trivial⟩ ?_
            exact own_cast ((lst_old (hl ▸ hc35 ▸ List.mem_of_getElem? hx)).trans hl.symm) S1
          · skip
            refine r_skip ?_
            refine r_seq ?_
            refine r_region ?_
            refine l_buildSlice EI [] S1 rfl Try.runUnderlying25 Try.sizeOf3 Try.zeroValue3 rfl trivial (Nat.le_of_ble_eq_true rfl) ?_
            intro v12 w9 S10 hl11
            refine l_x rfl (x_mv rfl) ?_
            refine l_x rfl (x_mv rfl) ?_
            refine l_head (vec_rd (S10.at 0 rfl)) rfl rfl rfl Try.runUnderlying25 Try.sizeOf3 (by omega) ?_
            intro v13 ht14
            refine l_append EI S10 1 rfl rfl rfl rfl ht14 Try.underlying25 info3 rfl rfl rfl (by rw [List.length_take]; unfold maxLen; simp; omega) (by rw [List.length_take]; show _ * 8 ≤ _; simp; omega) ?_
            intro v18 w15 S16 hk17 hv19
            refine l_x rfl (x_as rfl) ?_
            refine l_nil ?_
            refine r_seq ?_
            refine r_region ?_
            refine l_x rfl (x_mv rfl) ?_
            refine l_x rfl (x_mv rfl) ?_
            refine l_buildSlice EI [_] S16 rfl Try.runUnderlying25 Try.sizeOf3 Try.zeroValue3 rfl ⟨rfl, rfl, trivial⟩ (Nat.le_of_ble_eq_true rfl) ?_
            intro v23 w20 S21 hl22
            refine l_append EI S21 1 rfl rfl rfl rfl (vec_rd (S21.at 2 rfl)) Try.underlying25 info3 rfl rfl rfl (by simp only [List.nil_append, List.length_append, List.length_take, List.length_singleton]; unfold maxLen; omega) (by simp only [List.nil_append, List.length_append, List.length_take, List.length_singleton]; show _ * 8 ≤ _; omega) ?_
            intro v27 w24 S25 hk26 hv28
            refine l_x rfl (x_as rfl) ?_
            refine l_nil ?_
            refine r_seq ?_
            refine r_region ?_
            refine l_x rfl (x_mv rfl) ?_
            refine l_x rfl (x_mv rfl) ?_
            refine l_x rfl (x_mv rfl) ?_
            refine l_tail S25 0 rfl rfl rfl rfl Try.runUnderlying25 Try.sizeOf3 (by omega) ?_
            intro v29 ht30
            refine l_append EI S25 1 rfl rfl rfl rfl (tail_rd ht30 (S25.at 0 rfl)) Try.underlying25 info3 rfl rfl rfl (by simp only [List.nil_append, List.length_append, List.length_take, List.length_drop, List.length_singleton]; unfold maxLen; omega) (by simp only [List.nil_append, List.length_append, List.length_take, List.length_drop, List.length_singleton]; show _ * 8 ≤ _; omega) ?_
            intro v34 w31 S32 hk33 hv35
            refine l_x rfl (x_as rfl) ?_
            refine l_nil ?_
            refine r_ret (rs := [.tmp 4]) [_] Try.func82 rfl ⟨rfl, trivial⟩ ?_
            have q1 : 0 < n := by omega
            have q2 : 0 < i := by omega
            have q3 : x < n := by omega
            have q4 : l.Pairwise (· < ·) := by rw [hl]; exact lst_sorted L
            have q5 := take_lt q4 hx' q2 q3
            have q6 := lst_newl (k := i) hl q1 hgt q5
            have hS : Own _ _ _ [_] := S32.pick [1] (by decide) rfl
            rw [List.nil_append, Int.toNat_natCast] at hS
            exact own_cast q6 hS
        · omega
    · skip
      refine l_pass rfl ?_
      refine l_pass rfl ?_
      refine l_pass rfl ?_
      refine l_pass rfl ?_
      refine l_pass rfl ?_
      refine l_pass rfl ?_
      refine l_pass rfl ?_
      refine l_x rfl (x_pick_f rfl rfl) ?_
      refine l_nil ?_
      refine r_false rfl ?_
      refine r_exit rfl ?_
      refine r_seq ?_
      refine r_seq ?_
      refine r_region ?_
      refine l_x rfl (x_mv rfl) ?_
      refine l_x rfl (x_gtr rfl rfl) ?_
      refine l_x rfl (x_mv rfl) ?_
      refine l_splitd (d := 27) rfl (fun hg27 => ?_) (fun hg27 => ?_)
      · omega
      · skip
        refine l_pass rfl ?_
        refine l_pass rfl ?_
        refine l_pass rfl ?_
        refine l_pass rfl ?_
        refine l_pass rfl ?_
        refine l_pass rfl ?_
        refine l_pass rfl ?_
        refine l_x rfl (x_pick_f rfl rfl) ?_
        refine l_nil ?_
        refine r_false rfl ?_
        refine r_skip ?_
        refine r_seq ?_
        refine r_region ?_
        refine l_buildSlice EI [] S1 rfl Try.runUnderlying25 Try.sizeOf3 Try.zeroValue3 rfl trivial (Nat.le_of_ble_eq_true rfl) ?_
        intro v39 w36 S37 hl38
        refine l_x rfl (x_mv rfl) ?_
        refine l_x rfl (x_mv rfl) ?_
        refine l_head (vec_rd (S37.at 0 rfl)) rfl rfl rfl Try.runUnderlying25 Try.sizeOf3 (by omega) ?_
        intro v40 ht41
        refine l_append EI S37 1 rfl rfl rfl rfl ht41 Try.underlying25 info3 rfl rfl rfl (by rw [List.length_take]; unfold maxLen; simp; omega) (by rw [List.length_take]; show _ * 8 ≤ _; simp; omega) ?_
        intro v45 w42 S43 hk44 hv46
        refine l_x rfl (x_as rfl) ?_
        refine l_nil ?_
        refine r_seq ?_
        refine r_region ?_
        refine l_x rfl (x_mv rfl) ?_
        refine l_x rfl (x_mv rfl) ?_
        refine l_buildSlice EI [_] S43 rfl Try.runUnderlying25 Try.sizeOf3 Try.zeroValue3 rfl ⟨rfl, rfl, trivial⟩ (Nat.le_of_ble_eq_true rfl) ?_
        intro v50 w47 S48 hl49
        refine l_append EI S48 1 rfl rfl rfl rfl (vec_rd (S48.at 2 rfl)) Try.underlying25 info3 rfl rfl rfl (by simp only [List.nil_append, List.length_append, List.length_take, List.length_singleton]; unfold maxLen; omega) (by simp only [List.nil_append, List.length_append, List.length_take, List.length_singleton]; show _ * 8 ≤ _; omega) ?_
        intro v54 w51 S52 hk53 hv55
        refine l_x rfl (x_as rfl) ?_
        refine l_nil ?_
        refine r_seq ?_
        refine r_region ?_
        refine l_x rfl (x_mv rfl) ?_
        refine l_x rfl (x_mv rfl) ?_
        refine l_x rfl (x_mv rfl) ?_
        refine l_tail S52 0 rfl rfl rfl rfl Try.runUnderlying25 Try.sizeOf3 (by omega) ?_
        intro v56 ht57
        refine l_append EI S52 1 rfl rfl rfl rfl (tail_rd ht57 (S52.at 0 rfl)) Try.underlying25 info3 rfl rfl rfl (by simp only [List.nil_append, List.length_append, List.length_take, List.length_drop, List.length_singleton]; unfold maxLen; omega) (by simp only [List.nil_append, List.length_append, List.length_take, List.length_drop, List.length_singleton]; show _ * 8 ≤ _; omega) ?_
        intro v61 w58 S59 hk60 hv62
        refine l_x rfl (x_as rfl) ?_
        refine l_nil ?_
        refine r_ret (rs := [.tmp 4]) [_] Try.func82 rfl ⟨rfl, trivial⟩ ?_
        have q1 : 0 < n := by omega
        have q6 := lst_newl (k := i) hl q1 hgt (by intro y hy; rw [show i = 0 by omega] at hy; cases hy)
        have hS : Own _ _ _ [_] := S59.pick [1] (by decide) rfl
        rw [List.nil_append, Int.toNat_natCast] at hS
        exact own_cast q6 hS

theorem Own.recast {X : Nat → Prop} {w w' : World} {v : Value} {A : Rsc} {a b : List Int} (h : Own X w w' [A, vec EI v b]) (e : a = b) : Own X w w' [A, vec EI v a] := by subst e; exact h
section
variable {p wl : List Int} {arcs : List Arc} {i : Nat} {a : Arc} {y : Int} (ha : arcs[i]? = some a) (hy : wl[i]? = some y)
include ha hy
theorem rec_hi (h : 0 < rst p a y) : lst (recs (told p (arcs.take (i + 1)) (wl.take (i + 1)))) = lst (recs (told p (arcs.take i) (wl.take i)) ++ [a.hiBy]) := by rw [told_take ha hy, told1_pos h, recs_app, recs_one_hi]
theorem rec_lo (h : rst p a y < 0) (h2 : 0 < a.lo) : lst (recs (told p (arcs.take (i + 1)) (wl.take (i + 1)))) = lst (recs (told p (arcs.take i) (wl.take i)) ++ [a.loBy]) := by rw [told_take ha hy, told1_neg h, recs_app, recs_one_lo h2]
theorem rec_lo0 (h : rst p a y < 0) (h2 : ¬ 0 < a.lo) : lst (recs (told p (arcs.take (i + 1)) (wl.take (i + 1)))) = lst (recs (told p (arcs.take i) (wl.take i))) := by rw [told_take ha hy, told1_neg h, recs_app, recs_one_no h2, List.append_nil]
theorem rec_no (h : ¬ 0 < rst p a y) (h2 : ¬ rst p a y < 0) : lst (recs (told p (arcs.take (i + 1)) (wl.take (i + 1)))) = lst (recs (told p (arcs.take i) (wl.take i))) := by rw [told_take ha hy, told1_zero h h2, List.append_nil]
end

set_option maxHeartbeats 2000000 in
/-- couchant/couchantref06.Records. -/
theorem c_rRecords (N : Int) (va : Value) (arcs : List Arc) (vw : Value) (wl : List Int) (vp : Value) (p : List Int) (hmwl : wl.length ≤ 9223372036854775807) (hmp : p.length ≤ 9223372036854775807) (w : World) (hA : Rd EA w va arcs) (Hwl : Rd EI w vw wl) (Hp : Rd EI w vp p) :
    Cl Try.prog 41 #[.agg #[.int .i64 N, va], vw, vp] w fun v w' => ∃ s, v = .tuple #[s, .int .i64 (askd N arcs (row wl arcs.length (-1000) 1000 && row p N (-10000000) 10000000))] ∧ New w w' (vec EI s (if askd N arcs (row wl arcs.length (-1000) 1000 && row p N (-10000000) 10000000) = 0 then lst (recs (told p arcs wl)) else [])) ∧ Le w w' := by
  refine fn_of_run (args := [_, _, _]) 66 Try.func41 rfl rfl rfl fun cs => ?_
  have S := Own.start (X := nob) w
  refine r_seq ?_
  refine r_region ?_
  refine l_box S rfl rfl ?_
  intro b4 w1 S2 hl3
  refine l_x rfl (x_as rfl) ?_
  refine l_x rfl (x_as rfl) ?_
  refine l_nil ?_
  refine r_seq ?_
  refine r_drawR 11 Try.mixed (by kernel_rfl) ?_
  refine w_x rfl (fun w1 h1 => x_load rfl (ld_blks ((S2.step h1).blk 0 rfl) Try.isAgg24 Try.sizeOf24 rfl rfl)) ?_
  refine w_x rfl (fun w1 h1 => x_load rfl (ld_blks ((S2.step h1).blk 0 rfl) Try.isAgg24 Try.sizeOf24 rfl rfl)) ?_
  refine w_x rfl (fun w1 h1 => x_mv rfl) ?_
  refine wd_call [] [] [_, _] rfl rfl Try.call47 rfl (fun w1 h1 => c_rWeights _ _ _ _ _ (by omega) _ (hA.le (S2.step h1).le) (Hwl.le (S2.step h1).le)) ?_
  refine w_x rfl (fun w1 h1 => x_mv rfl) ?_
  refine w_split (d := 16) rfl (fun hg16 => ?_) (fun hg16 => ?_)
  · skip
    have hWE : (row wl arcs.length (-1000) 1000 && row p N (-10000000) 10000000) = row p N (-10000000) 10000000 := by rw [show row wl arcs.length (-1000) 1000 = true from hg16, Bool.true_and]
    refine w_x rfl (fun w1 h1 => x_load rfl (ld_blks ((S2.step h1).blk 0 rfl) Try.isAgg24 Try.sizeOf24 rfl rfl)) ?_
    refine w_x rfl (fun w1 h1 => x_mv rfl) ?_
    refine wd_call [] [] [_, _] rfl rfl Try.call92 rfl (fun w1 h1 => c_rPotentials _ _ _ _ (by omega) _ (Hp.le (S2.step h1).le)) ?_
    refine w_x rfl (fun w1 h1 => x_pick_t rfl rfl) ?_
    refine wd_call [] [] [_, _] rfl rfl Try.call84 rfl (fun w1 h1 => c_rasked _ _ _ _ _ (hA.le (S2.step h1).le)) ?_
    refine w_x rfl (fun w1 h1 => x_as rfl) ?_
    refine w_nil ?_
    intro w5 hl6
    have S7 := S2.step hl6
    refine l_nil ?_
    refine r_seq ?_
    refine r_seq ?_
    refine r_region ?_
    refine l_x rfl (x_mv rfl) ?_
    refine l_x rfl (x_neq rfl rfl) ?_
    refine l_nil ?_
    refine r_ifd rfl (fun hc23 => ?_) (fun hc23 => ?_)
    · skip
      refine r_seq ?_
      refine r_region ?_
      refine l_x rfl (x_mv rfl) ?_
      refine l_x rfl (x_as rfl) ?_
      refine l_x rfl (x_as rfl) ?_
      refine l_nil ?_
      refine r_ret (rs := [.tmp 6, .tmp 7]) [_, _] Try.func41 rfl ⟨rfl, rfl, trivial⟩ ?_
      exact ⟨.slice none 0 0, congrArg (fun x => Value.tuple #[_, .int .i64 x]) (congrArg (askd N arcs) hWE).symm, by rw [if_neg (fun h => hc23 ((congrArg (askd N arcs) hWE).symm.trans h))]; exact New.nilvec .., S7.le⟩
    · skip
      have h0 := Decidable.not_not.1 hc23
      obtain ⟨hV, hq⟩ := askd_zero.1 h0
      have hw := row_wts.1 hg16
      have hp := row_pts.1 hq
      have hLx := hV.len
      have hwl := hw.len
      refine r_skip ?_
      refine r_seq ?_
      refine r_region ?_
      refine l_x rfl (x_as rfl) ?_
      have S8 := S7.nilvec (E := EI)
      refine l_nil ?_
      refine r_seq ?_
      refine r_seq ?_
      refine r_region ?_
      refine l_x rfl (x_as rfl) ?_
      refine l_nil ?_
      refine r_block ?_
      refine r_loop (G := Nat × Value) (fun ⟨i, vr⟩ => wl.length - i) (fun ⟨i, vr⟩ => [(3, .pointer (some ⟨b4, 0, none⟩)), (1, vw), (2, vp), (10, .int .i64 i), (9, vr)]) (fun ⟨i, vr⟩ w' => (i ≤ wl.length) ∧ Own nob w w' [blk b4 [.int .i64 N, va] 24, vec EI vr (lst (recs (told p (arcs.take i) (wl.take i))))]) (0, .slice none 0 0) ⟨rfl, rfl, rfl, rfl, rfl, trivial⟩ ⟨Nat.zero_le _, (Own.recast S8 lst_nil)⟩ ?_
      rintro ⟨i, vr⟩ ρ w1 ⟨hi, S1⟩ IH
      refine r_seq ?_
      refine r_seq ?_
      refine r_region ?_
      refine l_x rfl (x_mv rfl) ?_
      refine l_x rfl (x_mv rfl) ?_
      refine l_x rfl (x_len (Hwl.le S1.le) rfl Try.runUnderlying25) ?_
      refine l_x rfl (x_lss rfl rfl) ?_
      refine l_nil ?_
      refine r_ifd rfl (fun hc28 => ?_) (fun hc28 => ?_)
      · skip
        obtain ⟨a, ha⟩ : ∃ a, arcs[i]? = some a := ⟨_, List.getElem?_eq_getElem (by omega)⟩
        obtain ⟨y, hy⟩ : ∃ y, wl[i]? = some y := ⟨_, List.getElem?_eq_getElem (by omega)⟩
        have hok := hV.at ha
        refine r_skip ?_
        refine r_seq ?_
        refine r_block ?_
        refine r_seq ?_
        refine r_region ?_
        refine l_x rfl (x_load rfl (ld_blks (S1.blk 0 rfl) Try.isAgg24 Try.sizeOf24 rfl rfl)) ?_
        refine l_x rfl (x_mv rfl) ?_
        refine l_x rfl (x_mv rfl) ?_
        refine l_x rfl (x_mv rfl) ?_
        refine l_call [] [] [_, _, _, _] rfl rfl Try.call93 rfl (c_rrest _ _ _ _ _ _ _ _ _ _ hV hw hp ha hy _ (hA.le S1.le) (Hwl.le S1.le) (Hp.le S1.le)) ?_
        rintro _ w9 ⟨rfl, hl11⟩
        have S10 := S1.step hl11
        refine l_x rfl (x_as rfl) ?_
        refine l_nil ?_
        refine r_seq ?_
        refine r_seq ?_
        refine r_region ?_
        refine l_x rfl (x_mv rfl) ?_
        refine l_x rfl (x_gtr rfl rfl) ?_
        refine l_nil ?_
        refine r_ifd rfl (fun hc37 => ?_) (fun hc37 => ?_)
        · skip
          refine r_region ?_
          refine l_x rfl (x_mv rfl) ?_
          refine l_x rfl (x_fieldAddr rfl Try.runUnderlying24 rfl Try.sizeOf22 (by decide)) ?_
          refine l_x rfl (x_load rfl (ld_blk (S10.blk 0 rfl) Try.isAgg22 rfl)) ?_
          refine l_x rfl (x_mv rfl) ?_
          refine l_index EA rfl (hA.le S10.le) rfl rfl Try.runUnderlying22 Try.sizeOf39 (by omega) ha ?_
          intro b12 o13 hat14 row15
          refine l_x rfl (x_fieldAddr rfl Try.runUnderlying39 rfl Try.sizeOf3 (by decide)) ?_
          refine l_x rfl (x_load rfl (ld_cell Try.isAgg3 (row15 5 _ rfl))) ?_
          refine l_call [] [] [_, _] rfl rfl Try.call82 rfl (c_rput0 _ _ _ _ rfl (by omega) (by have := told_len (p := p) (arcs.take i) (wl.take i); have := recs_len (told p (arcs.take i) (wl.take i)); rw [List.length_take] at *; omega) _ (S10.lend 1 rfl)) ?_
          intro v16 w17 hl19
          have S18 := S10.back 1 rfl hl19
          refine l_x rfl (x_as rfl) ?_
          refine l_nil ?_
          refine r_seq ?_
          refine r_region ?_
          refine l_x rfl (x_mv rfl) ?_
          refine l_x rfl (x_lss rfl rfl) ?_
          refine l_x rfl (x_mv rfl) ?_
          refine l_splitd (d := 48) rfl (fun hg48 => ?_) (fun hg48 => ?_)
          · omega
          · skip
            refine l_pass rfl ?_
            refine l_pass rfl ?_
            refine l_pass rfl ?_
            refine l_pass rfl ?_
            refine l_pass rfl ?_
            refine l_pass rfl ?_
            refine l_pass rfl ?_
            refine l_x rfl (x_pick_f rfl rfl) ?_
            refine l_nil ?_
            refine r_false rfl ?_
            refine r_skip ?_
            refine r_inBlock ?_
            refine r_region ?_
            refine l_x rfl (x_mv rfl) ?_
            refine l_x rfl (x_add rfl rfl (by omega)) ?_
            refine l_x rfl (x_as rfl) ?_
            refine l_nil ?_
            exact IH (i + 1, v16) _ _ (by dsimp only; omega) ⟨rfl, rfl, rfl, rfl, rfl, trivial⟩ ⟨by omega, (Own.recast S18 (rec_hi ha hy hc37))⟩
        · skip
          refine r_skip ?_
          refine r_seq ?_
          refine r_region ?_
          refine l_x rfl (x_mv rfl) ?_
          refine l_x rfl (x_lss rfl rfl) ?_
          refine l_x rfl (x_mv rfl) ?_
          refine l_splitd (d := 48) rfl (fun hg48 => ?_) (fun hg48 => ?_)
          · skip
            refine l_x rfl (x_fieldAddr rfl Try.runUnderlying24 rfl Try.sizeOf22 (by decide)) ?_
            refine l_x rfl (x_load rfl (ld_blk (S10.blk 0 rfl) Try.isAgg22 rfl)) ?_
            refine l_x rfl (x_mv rfl) ?_
            refine l_index EA rfl (hA.le S10.le) rfl rfl Try.runUnderlying22 Try.sizeOf39 (by omega) ha ?_
            intro b20 o21 hat22 row23
            refine l_x rfl (x_fieldAddr rfl Try.runUnderlying39 rfl Try.sizeOf3 (by decide)) ?_
            refine l_x rfl (x_load rfl (ld_cell Try.isAgg3 (row23 2 _ rfl))) ?_
            refine l_x rfl (x_gtr rfl rfl) ?_
            refine l_x rfl (x_pick_t rfl rfl) ?_
            refine l_nil ?_
            refine r_ifd rfl (fun hc56 => ?_) (fun hc56 => ?_)
            · skip
              refine r_region ?_
              refine l_x rfl (x_mv rfl) ?_
              refine l_x rfl (x_fieldAddr rfl Try.runUnderlying24 rfl Try.sizeOf22 (by decide)) ?_
              refine l_x rfl (x_load rfl (ld_blk (S10.blk 0 rfl) Try.isAgg22 rfl)) ?_
              refine l_x rfl (x_mv rfl) ?_
              refine l_index EA rfl (hA.le S10.le) rfl rfl Try.runUnderlying22 Try.sizeOf39 (by omega) ha ?_
              intro b24 o25 hat26 row27
              refine l_x rfl (x_fieldAddr rfl Try.runUnderlying39 rfl Try.sizeOf3 (by decide)) ?_
              refine l_x rfl (x_load rfl (ld_cell Try.isAgg3 (row27 4 _ rfl))) ?_
              refine l_call [] [] [_, _] rfl rfl Try.call82 rfl (c_rput0 _ _ _ _ rfl (by omega) (by have := told_len (p := p) (arcs.take i) (wl.take i); have := recs_len (told p (arcs.take i) (wl.take i)); rw [List.length_take] at *; omega) _ (S10.lend 1 rfl)) ?_
              intro v28 w29 hl31
              have S30 := S10.back 1 rfl hl31
              refine l_x rfl (x_as rfl) ?_
              refine l_nil ?_
              refine r_inBlock ?_
              refine r_region ?_
              refine l_x rfl (x_mv rfl) ?_
              refine l_x rfl (x_add rfl rfl (by omega)) ?_
              refine l_x rfl (x_as rfl) ?_
              refine l_nil ?_
              exact IH (i + 1, v28) _ _ (by dsimp only; omega) ⟨rfl, rfl, rfl, rfl, rfl, trivial⟩ ⟨by omega, (Own.recast S30 (rec_lo ha hy hg48 hc56))⟩
            · skip
              refine r_skip ?_
              refine r_inBlock ?_
              refine r_region ?_
              refine l_x rfl (x_mv rfl) ?_
              refine l_x rfl (x_add rfl rfl (by omega)) ?_
              refine l_x rfl (x_as rfl) ?_
              refine l_nil ?_
              exact IH (i + 1, vr) _ _ (by dsimp only; omega) ⟨rfl, rfl, rfl, rfl, rfl, trivial⟩ ⟨by omega, (Own.recast S10 (rec_lo0 ha hy hg48 hc56))⟩
          · skip
            refine l_pass rfl ?_
            refine l_pass rfl ?_
            refine l_pass rfl ?_
            refine l_pass rfl ?_
            refine l_pass rfl ?_
            refine l_pass rfl ?_
            refine l_pass rfl ?_
            refine l_x rfl (x_pick_f rfl rfl) ?_
            refine l_nil ?_
            refine r_false rfl ?_
            refine r_skip ?_
            refine r_inBlock ?_
            refine r_region ?_
            refine l_x rfl (x_mv rfl) ?_
            refine l_x rfl (x_add rfl rfl (by omega)) ?_
            refine l_x rfl (x_as rfl) ?_
            refine l_nil ?_
            exact IH (i + 1, vr) _ _ (by dsimp only; omega) ⟨rfl, rfl, rfl, rfl, rfl, trivial⟩ ⟨by omega, (Own.recast S10 (rec_no ha hy hc37 hg48))⟩
      · skip
        have hie : i = wl.length := by omega
        subst hie
        refine r_exit rfl ?_
        refine r_seq ?_
        refine r_region ?_
        refine l_x rfl (x_mv rfl) ?_
        refine l_x rfl (x_as rfl) ?_
        refine l_x rfl (x_as rfl) ?_
        refine l_nil ?_
        refine r_ret (rs := [.tmp 6, .tmp 7]) [_, _] Try.func41 rfl ⟨rfl, rfl, trivial⟩ ?_
        exact ⟨vr, congrArg (fun x => Value.tuple #[_, .int .i64 x]) (h0.symm.trans (congrArg (askd N arcs) hWE).symm), by rw [if_pos ((congrArg (askd N arcs) hWE).trans h0)]; have hS := S1.new 1 rfl; rw [List.take_length, List.take_of_length_le (by omega)] at hS; exact hS, S1.le⟩
  · skip
    have hWE : (row wl arcs.length (-1000) 1000 && row p N (-10000000) 10000000) = false := by rw [show row wl arcs.length (-1000) 1000 = false from hg16, Bool.false_and]
    refine w_pass rfl ?_
    refine w_pass rfl ?_
    refine w_pass rfl ?_
    refine w_x rfl (fun w1 h1 => x_pick_f rfl rfl) ?_
    refine wd_call [] [] [_, _] rfl rfl Try.call84 rfl (fun w1 h1 => c_rasked _ _ _ _ _ (hA.le (S2.step h1).le)) ?_
    refine w_x rfl (fun w1 h1 => x_as rfl) ?_
    refine w_nil ?_
    intro w32 hl33
    have S34 := S2.step hl33
    refine l_nil ?_
    refine r_seq ?_
    refine r_seq ?_
    refine r_region ?_
    refine l_x rfl (x_mv rfl) ?_
    refine l_x rfl (x_neq rfl rfl) ?_
    refine l_nil ?_
    refine r_ifd rfl (fun hc23 => ?_) (fun hc23 => ?_)
    · skip
      refine r_seq ?_
      refine r_region ?_
      refine l_x rfl (x_mv rfl) ?_
      refine l_x rfl (x_as rfl) ?_
      refine l_x rfl (x_as rfl) ?_
      refine l_nil ?_
      refine r_ret (rs := [.tmp 6, .tmp 7]) [_, _] Try.func41 rfl ⟨rfl, rfl, trivial⟩ ?_
      exact ⟨.slice none 0 0, congrArg (fun x => Value.tuple #[_, .int .i64 x]) (congrArg (askd N arcs) hWE).symm, by rw [if_neg (fun h => hc23 ((congrArg (askd N arcs) hWE).symm.trans h))]; exact New.nilvec .., S34.le⟩
    · exact absurd (askd_zero.1 (Decidable.not_not.1 hc23)).2 (by decide)

/-- A first number is put into no list. -/
theorem c_rputN (n : Int) (hn : 0 ≤ n) (w : World) : Cl Try.prog 82 #[.slice none 0 0, .int .i64 n] w fun v w' => New w w' (vec EI v (lst [n])) ∧ Le w w' := by
  have S0 : Own nob w w [vec EI (.slice none 0 0) []] := (Own.start (X := nob) w).nilvec (E := EI)
  refine (c_rput0 (.slice none 0 0) [] [] n lst_nil.symm hn (by simp) w (S0.lend 0 rfl)).mono fun v w' h => ?_
  have S1 : Own nob w w' [vec EI v (lst ([] ++ [n]))] := S0.back 0 rfl h
  exact ⟨S1.new 0 rfl, S1.le⟩
theorem Own.recast2 {X : Nat → Prop} {w w' : World} {v : Value} {A B C : Rsc} {a b : List Int} {M : List Rsc} (h : Own X w w' (A :: B :: vec EI v b :: C :: M)) (e : a = b) : Own X w w' [A, B, vec EI v a, C] := by subst e; exact h.take 4

set_option maxHeartbeats 2000000 in
/-- couchant/couchantref06.ObstacleRecords. -/
theorem c_rObstacleRecords (N : Int) (va : Value) (arcs : List Arc) (A : Int) (vn : Value) (ns : List Int) (hmx : ns.length ≤ 9223372036854775807) (w : World) (hA : Rd EA w va arcs) (Hn : Rd EI w vn ns) :
    Cl Try.prog 28 #[.agg #[.int .i64 N, va], .agg #[.int .i64 A, vn]] w fun v w' => ∃ s, v = .tuple #[s, .int .i64 (askd N arcs (hind N arcs A ns))] ∧ New w w' (vec EI s (if askd N arcs (hind N arcs A ns) = 0 then orec arcs A ns else [])) ∧ Le w w' := by
  refine fn_of_run (args := [_, _]) 100 Try.func28 rfl rfl rfl fun cs => ?_
  have S := Own.start (X := nob) w
  refine r_seq ?_
  refine r_region ?_
  refine l_box S rfl rfl ?_
  intro b4 w1 S2 hl3
  refine l_box S2 rfl rfl ?_
  intro b8 w5 S6 hl7
  refine l_x rfl (x_as rfl) ?_
  refine l_x rfl (x_as rfl) ?_
  refine l_nil ?_
  refine r_seq ?_
  refine r_region ?_
  refine l_x rfl (x_load rfl (ld_blks (S6.blk 0 rfl) Try.isAgg24 Try.sizeOf24 rfl rfl)) ?_
  refine l_call [] [] [_] rfl rfl Try.call37 rfl (c_rCheck _ _ _ _ (hA.le S6.le)) ?_
  rintro _ w9 ⟨rfl, hl11⟩
  have S10 := S6.step hl11
  refine l_x rfl (x_as rfl) ?_
  refine l_nil ?_
  refine r_seq ?_
  refine r_seq ?_
  refine r_region ?_
  refine l_x rfl (x_mv rfl) ?_
  refine l_x rfl (x_neq rfl rfl) ?_
  refine l_nil ?_
  refine r_ifd rfl (fun hc15 => ?_) (fun hc15 => ?_)
  · skip
    refine r_seq ?_
    refine r_region ?_
    refine l_x rfl (x_mv rfl) ?_
    refine l_x rfl (x_as rfl) ?_
    refine l_x rfl (x_as rfl) ?_
    refine l_nil ?_
    refine r_ret (rs := [.tmp 4, .tmp 5]) [_, _] Try.func28 rfl ⟨rfl, rfl, trivial⟩ ?_
    have hx : askd N arcs (hind N arcs A ns) = chk N arcs := by rw [askd, if_pos hc15]
    exact ⟨.slice none 0 0, congrArg (fun x => Value.tuple #[_, .int .i64 x]) hx.symm, by rw [hx, if_neg hc15]; exact New.nilvec .., S10.le⟩
  · skip
    have h0 := Decidable.not_not.1 hc15
    have hV := chk_zero.1 h0
    have hNx := hV.max
    have hN1 := hV.pos
    have hLx := hV.len
    refine r_skip ?_
    refine r_seq ?_
    refine r_seq ?_
    refine r_region ?_
    refine l_x rfl (x_load rfl (ld_blks (S10.blk 0 rfl) Try.isAgg24 Try.sizeOf24 rfl rfl)) ?_
    refine l_x rfl (x_load rfl (ld_blks (S10.blk 1 rfl) Try.isAgg43 Try.sizeOf43 rfl rfl)) ?_
    refine l_call [] [] [_, _] rfl rfl Try.call78 rfl (c_robstacle _ _ _ _ _ _ hV (by omega) _ (hA.le S10.le) (Hn.le S10.le)) ?_
    rintro _ w12 ⟨rfl, hl14⟩
    have S13 := S10.step hl14
    refine l_x rfl (x_not rfl) ?_
    refine l_nil ?_
    refine r_if rfl (fun hc20 => ?_) (fun hc20 => ?_)
    · skip
      refine r_seq ?_
      refine r_region ?_
      refine l_x rfl (x_as rfl) ?_
      refine l_x rfl (x_as rfl) ?_
      refine l_nil ?_
      refine r_ret (rs := [.tmp 4, .tmp 5]) [_, _] Try.func28 rfl ⟨rfl, rfl, trivial⟩ ?_
      have hx : askd N arcs (hind N arcs A ns) = 1 := by rw [askd, if_neg hc15, if_neg (by simpa using hc20)]
      exact ⟨.slice none 0 0, congrArg (fun x => Value.tuple #[_, .int .i64 x]) hx.symm, by rw [hx, if_neg (by decide)]; exact New.nilvec .., S13.le⟩
    · skip
      have hq : hind N arcs A ns = true := by simpa using hc20
      have ha0 : askd N arcs (hind N arcs A ns) = 0 := askd_zero.2 ⟨hV, hq⟩
      refine r_skip ?_
      refine r_seq ?_
      refine r_region ?_
      refine l_x rfl (x_as rfl) ?_
      have S15 := S13.nilvec (E := EI)
      refine l_nil ?_
      refine r_seq ?_
      refine r_seq ?_
      refine r_region ?_
      refine l_x rfl (x_fieldAddr rfl Try.runUnderlying43 rfl Try.sizeOf3 (by decide)) ?_
      refine l_x rfl (x_load rfl (ld_blk (S15.blk 1 rfl) Try.isAgg3 rfl)) ?_
      refine l_x rfl (x_geq rfl rfl) ?_
      refine l_nil ?_
      refine r_ifd rfl (fun hc23 => ?_) (fun hc23 => ?_)
      · skip
        obtain ⟨a, ha, hbad⟩ := hind_bad hq hc23
        have hok := hV.ok a (List.mem_of_getElem? ha)
        have hok := okArc_iff.1 hok
        have hA1 : A < arcs.length := by have := (List.getElem?_eq_some_iff.1 ha).1; omega
        refine r_seq ?_
        refine r_drawE 16 nob Try.mixed (by kernel_rfl) ?_
        intro w16 hl17
        have S18 := S15.step hl17
        refine e_exact 0 _ (by kernel_rfl) rfl rfl (by kernel_rfl) rfl (ex_x rfl (fun w1 h1 => x_mv rfl)) ?_
        refine e_exact 1 _ (by kernel_rfl) rfl rfl (by kernel_rfl) rfl (ex_x rfl (fun w1 h1 => x_fieldAddr rfl Try.runUnderlying24 rfl Try.sizeOf22 (by decide))) ?_
        refine e_exact 2 _ (by kernel_rfl) rfl rfl (by kernel_rfl) rfl (ex_x rfl (fun w1 h1 => x_load rfl (ld_blk ((S18.step h1).blk 0 rfl) Try.isAgg22 rfl))) ?_
        refine e_exact 3 _ (by kernel_rfl) rfl rfl (by kernel_rfl) rfl (ex_x rfl (fun w1 h1 => x_fieldAddr rfl Try.runUnderlying43 rfl Try.sizeOf3 (by decide))) ?_
        refine e_exact 4 _ (by kernel_rfl) rfl rfl (by kernel_rfl) rfl (ex_x rfl (fun w1 h1 => x_load rfl (ld_blk ((S18.step h1).blk 1 rfl) Try.isAgg3 rfl))) ?_
        refine e_index EA 5 (by kernel_rfl) rfl rfl (by kernel_rfl) rfl rfl (hA.le S18.le) rfl rfl Try.runUnderlying22 Try.sizeOf39 (by omega) ha ?_
        intro b19 o20 hat21
        refine e_exact 6 _ (by kernel_rfl) rfl rfl (by kernel_rfl) rfl (ex_x rfl (fun w1 h1 => x_fieldAddr rfl Try.runUnderlying39 rfl Try.sizeOf3 (by decide))) ?_
        refine e_exact 7 _ (by kernel_rfl) rfl rfl (by kernel_rfl) rfl (ex_x rfl (fun w1 h1 => x_load rfl (ld_cell Try.isAgg3 ((rd_row (hA.le (S18.step h1).le) hat21 ha) 4 _ rfl)))) ?_
        refine e_exact 9 _ (by kernel_rfl) rfl rfl (by kernel_rfl) rfl (ex_x rfl (fun w1 h1 => x_fieldAddr rfl Try.runUnderlying24 rfl Try.sizeOf22 (by decide))) ?_
        refine e_exact 10 _ (by kernel_rfl) rfl rfl (by kernel_rfl) rfl (ex_x rfl (fun w1 h1 => x_load rfl (ld_blk ((S18.step h1).blk 0 rfl) Try.isAgg22 rfl))) ?_
        refine e_exact 11 _ (by kernel_rfl) rfl rfl (by kernel_rfl) rfl (ex_x rfl (fun w1 h1 => x_fieldAddr rfl Try.runUnderlying43 rfl Try.sizeOf3 (by decide))) ?_
        refine e_exact 12 _ (by kernel_rfl) rfl rfl (by kernel_rfl) rfl (ex_x rfl (fun w1 h1 => x_load rfl (ld_blk ((S18.step h1).blk 1 rfl) Try.isAgg3 rfl))) ?_
        refine e_index EA 13 (by kernel_rfl) rfl rfl (by kernel_rfl) rfl rfl (hA.le S18.le) rfl rfl Try.runUnderlying22 Try.sizeOf39 (by omega) ha ?_
        intro b22 o23 hat24
        refine e_exact 14 _ (by kernel_rfl) rfl rfl (by kernel_rfl) rfl (ex_x rfl (fun w1 h1 => x_fieldAddr rfl Try.runUnderlying39 rfl Try.sizeOf3 (by decide))) ?_
        refine e_exact 15 _ (by kernel_rfl) rfl rfl (by kernel_rfl) rfl (ex_x rfl (fun w1 h1 => x_load rfl (ld_cell Try.isAgg3 ((rd_row (hA.le (S18.step h1).le) hat24 ha) 5 _ rfl)))) ?_
        refine e_next [8] (by kernel_rfl) (by kernel_rfl) ⟨⟨_, _, rfl, rfl, ?_⟩, trivial⟩
        refine s_callf [] [] [_, _] rfl rfl Try.call82 rfl ((c_rputN _ (by omega) _).mono ?_)
        rintro v3225 w25 ⟨hN3225, hl3225⟩
        have S26 := S18.add hl3225 hN3225
        refine ⟨.of_le hl3225, ?_⟩
        refine e_done (by kernel_rfl) ?_
        refine l_call [] [] [_, _] rfl rfl Try.call82 rfl (c_rput0 _ _ _ _ rfl (by omega) (by simp) _ (S26.lend 3 rfl)) ?_
        intro v27 w28 hl30
        have S29 := S26.back 3 rfl hl30
        refine l_x rfl (x_as rfl) ?_
        refine l_x rfl (x_as rfl) ?_
        refine l_nil ?_
        refine r_ret (rs := [.tmp 4, .tmp 5]) [_, _] Try.func28 rfl ⟨rfl, rfl, trivial⟩ ?_
        exact ⟨_, congrArg (fun x => Value.tuple #[_, .int .i64 x]) ha0.symm, by rw [if_pos ha0, orec, if_pos hc23, ha]; exact S29.new 3 rfl, S29.le⟩
      · skip
        obtain ⟨hA1, hasc, hpos⟩ := hind_cut hq hc23
        refine r_skip ?_
        refine r_seq ?_
        refine r_region ?_
        refine l_x rfl (x_load rfl (ld_blks (S15.blk 0 rfl) Try.isAgg24 Try.sizeOf24 rfl rfl)) ?_
        refine l_x rfl (x_fieldAddr rfl Try.runUnderlying43 rfl Try.sizeOf25 (by decide)) ?_
        refine l_x rfl (x_load rfl (ld_blk (S15.blk 1 rfl) Try.isAgg25 rfl)) ?_
        refine l_call [] [] [_, _] rfl rfl Try.call83 rfl (c_rinside _ _ _ _ _ hV (by omega) _ (Hn.le S15.le)) ?_
        rintro _ w31 (⟨vi4531, rfl, hN4531, hl4531, hasc⟩ | ⟨rfl, hl4531, hbad⟩)
        · skip
          have S32 := S15.add hl4531 hN4531
          refine l_x rfl (x_mv rfl) ?_
          refine l_x rfl (x_extract rfl rfl) ?_
          refine l_x rfl (x_extract rfl rfl) ?_
          refine l_x rfl (x_as rfl) ?_
          refine l_x rfl (x_as rfl) ?_
          refine l_nil ?_
          refine r_seq ?_
          refine r_seq ?_
          refine r_region ?_
          refine l_x rfl (x_as rfl) ?_
          refine l_nil ?_
          refine r_block ?_
          refine r_loop (G := Nat × Value) (fun ⟨i, vr⟩ => arcs.length - i) (fun ⟨i, vr⟩ => [(2, .pointer (some ⟨b4, 0, none⟩)), (8, vi4531), (7, vr), (10, .int .i64 i)]) (fun ⟨i, vr⟩ w' => (i ≤ arcs.length) ∧ Own nob w w' [blk b4 [.int .i64 N, va] 24, blk b8 [.int .i64 A, vn] 43, vec EI vr (lst (orecs (cutl ns (arcs.take i)))), vec EB vi4531 (mk N ns)]) (0, .slice none 0 0) ⟨rfl, rfl, rfl, rfl, trivial⟩ ⟨Nat.zero_le _, (Own.recast2 S32 lst_nil)⟩ ?_
          rintro ⟨i, vr⟩ ρ w1 ⟨hi, S1⟩ IH
          refine r_seq ?_
          refine r_seq ?_
          refine r_region ?_
          refine l_x rfl (x_mv rfl) ?_
          refine l_x rfl (x_fieldAddr rfl Try.runUnderlying24 rfl Try.sizeOf22 (by decide)) ?_
          refine l_x rfl (x_load rfl (ld_blk (S1.blk 0 rfl) Try.isAgg22 rfl)) ?_
          refine l_x rfl (x_len (hA.le S1.le) rfl Try.runUnderlying22) ?_
          refine l_x rfl (x_lss rfl rfl) ?_
          refine l_nil ?_
          refine r_ifd rfl (fun hc52 => ?_) (fun hc52 => ?_)
          · skip
            obtain ⟨a, ha⟩ : ∃ a, arcs[i]? = some a := ⟨_, List.getElem?_eq_getElem (by omega)⟩
            have hok := hV.at ha
            refine r_skip ?_
            refine r_seq ?_
            refine r_block ?_
            refine r_seq ?_
            refine r_region ?_
            refine l_x rfl (x_fieldAddr rfl Try.runUnderlying24 rfl Try.sizeOf22 (by decide)) ?_
            refine l_x rfl (x_load rfl (ld_blk (S1.blk 0 rfl) Try.isAgg22 rfl)) ?_
            refine l_x rfl (x_mv rfl) ?_
            refine l_index EA rfl (hA.le S1.le) rfl rfl Try.runUnderlying22 Try.sizeOf39 (by omega) ha ?_
            intro b33 o34 hat35 row36
            refine l_x rfl (x_load rfl (ld_row Try.isAgg39 Try.sizeOf39 rfl row36)) ?_
            refine l_alloc S1 rfl Try.zeroValue39 rfl ?_
            intro b40 w37 S38 hl39
            refine l_stores S38 4 rfl rfl rfl rfl (EA.one _) Try.sizeOf39 (by first | exact Nat.le_refl _ | simp) (splice_all rfl) ?_
            intro w41 S42 hk43
            refine l_nil ?_
            refine r_seq ?_
            refine r_seq ?_
            refine r_region ?_
            refine l_x rfl (x_mv rfl) ?_
            refine l_x rfl (x_fieldAddr rfl Try.runUnderlying39 rfl Try.sizeOf3 (by decide)) ?_
            refine l_x rfl (x_load rfl (ld_blk (S42.blk 4 rfl) Try.isAgg3 rfl)) ?_
            refine l_index EB rfl (vec_rd (S42.at 3 rfl)) rfl rfl Try.runUnderlying101 Try.sizeOf4 (by omega) (mk_get (by omega)) ?_
            intro b44 o45 hat46 row47
            refine l_x rfl (x_load rfl (ld_cell Try.isAgg4 (row47 0 _ rfl))) ?_
            refine l_x rfl (x_mv rfl) ?_
            refine l_split (d := 65) rfl (fun hg65 => ?_) (fun hg65 => ?_)
            · skip
              refine l_x rfl (x_mv rfl) ?_
              refine l_x rfl (x_fieldAddr rfl Try.runUnderlying39 rfl Try.sizeOf3 (by decide)) ?_
              refine l_x rfl (x_load rfl (ld_blk (S42.blk 4 rfl) Try.isAgg3 rfl)) ?_
              refine l_index EB rfl (vec_rd (S42.at 3 rfl)) rfl rfl Try.runUnderlying101 Try.sizeOf4 (by omega) (mk_get (by omega)) ?_
              intro b48 o49 hat50 row51
              refine l_x rfl (x_load rfl (ld_cell Try.isAgg4 (row51 0 _ rfl))) ?_
              refine l_x rfl (x_not rfl) ?_
              refine l_x rfl (x_pick_t rfl rfl) ?_
              refine l_x rfl (x_mv rfl) ?_
              refine l_split (d := 73) rfl (fun hg73 => ?_) (fun hg73 => ?_)
              · skip
                refine l_x rfl (x_fieldAddr rfl Try.runUnderlying39 rfl Try.sizeOf3 (by decide)) ?_
                refine l_x rfl (x_load rfl (ld_blk (S42.blk 4 rfl) Try.isAgg3 rfl)) ?_
                refine l_x rfl (x_gtr rfl rfl) ?_
                refine l_x rfl (x_pick_t rfl rfl) ?_
                refine l_nil ?_
                refine r_ifd rfl (fun hc77 => ?_) (fun hc77 => ?_)
                · skip
                  refine r_region ?_
                  refine l_x rfl (x_mv rfl) ?_
                  refine l_x rfl (x_fieldAddr rfl Try.runUnderlying39 rfl Try.sizeOf3 (by decide)) ?_
                  refine l_x rfl (x_load rfl (ld_blk (S42.blk 4 rfl) Try.isAgg3 rfl)) ?_
                  refine l_call [] [] [_, _] rfl rfl Try.call82 rfl (c_rput0 _ _ _ _ rfl (by omega) (by have := cutl_len ns (arcs.take i); have := orecs_len (cutl ns (arcs.take i)); rw [List.length_take] at *; omega) _ (S42.lend 2 rfl)) ?_
                  intro v52 w53 hl55
                  have S54 := S42.back 2 rfl hl55
                  refine l_x rfl (x_as rfl) ?_
                  refine l_nil ?_
                  refine r_seq ?_
                  refine r_region ?_
                  refine l_x rfl (x_mv rfl) ?_
                  refine l_x rfl (x_fieldAddr rfl Try.runUnderlying39 rfl Try.sizeOf3 (by decide)) ?_
                  refine l_x rfl (x_load rfl (ld_blk (S54.blk 4 rfl) Try.isAgg3 rfl)) ?_
                  refine l_index EB rfl (vec_rd (S54.at 3 rfl)) rfl rfl Try.runUnderlying101 Try.sizeOf4 (by omega) (mk_get (by omega)) ?_
                  intro b56 o57 hat58 row59
                  refine l_x rfl (x_load rfl (ld_cell Try.isAgg4 (row59 0 _ rfl))) ?_
                  refine l_x rfl (x_not rfl) ?_
                  refine l_x rfl (x_mv rfl) ?_
                  refine l_split (d := 88) rfl (fun hg88 => ?_) (fun hg88 => ?_)
                  · rw [hg65] at hg88; exact absurd hg88 (by decide)
                  · skip
                    refine l_pass rfl ?_
                    refine l_pass rfl ?_
                    refine l_pass rfl ?_
                    refine l_pass rfl ?_
                    refine l_pass rfl ?_
                    refine l_x rfl (x_pick_f rfl rfl) ?_
                    refine l_nil ?_
                    refine r_false rfl ?_
                    refine r_skip ?_
                    refine r_inBlock ?_
                    refine r_region ?_
                    refine l_x rfl (x_mv rfl) ?_
                    refine l_x rfl (x_add rfl rfl (by omega)) ?_
                    refine l_x rfl (x_as rfl) ?_
                    refine l_nil ?_
                    exact IH (i + 1, v52) _ _ (by dsimp only; omega) ⟨rfl, rfl, rfl, rfl, trivial⟩ ⟨by omega, (Own.recast2 S54 (oc_lo ha hg65 (by simpa using hg73) hc77))⟩
                · skip
                  refine r_skip ?_
                  refine r_seq ?_
                  refine r_region ?_
                  refine l_x rfl (x_mv rfl) ?_
                  refine l_x rfl (x_fieldAddr rfl Try.runUnderlying39 rfl Try.sizeOf3 (by decide)) ?_
                  refine l_x rfl (x_load rfl (ld_blk (S42.blk 4 rfl) Try.isAgg3 rfl)) ?_
                  refine l_index EB rfl (vec_rd (S42.at 3 rfl)) rfl rfl Try.runUnderlying101 Try.sizeOf4 (by omega) (mk_get (by omega)) ?_
                  intro b60 o61 hat62 row63
                  refine l_x rfl (x_load rfl (ld_cell Try.isAgg4 (row63 0 _ rfl))) ?_
                  refine l_x rfl (x_not rfl) ?_
                  refine l_x rfl (x_mv rfl) ?_
                  refine l_split (d := 88) rfl (fun hg88 => ?_) (fun hg88 => ?_)
                  · rw [hg65] at hg88; exact absurd hg88 (by decide)
                  · skip
                    refine l_pass rfl ?_
                    refine l_pass rfl ?_
                    refine l_pass rfl ?_
                    refine l_pass rfl ?_
                    refine l_pass rfl ?_
                    refine l_x rfl (x_pick_f rfl rfl) ?_
                    refine l_nil ?_
                    refine r_false rfl ?_
                    refine r_skip ?_
                    refine r_inBlock ?_
                    refine r_region ?_
                    refine l_x rfl (x_mv rfl) ?_
                    refine l_x rfl (x_add rfl rfl (by omega)) ?_
                    refine l_x rfl (x_as rfl) ?_
                    refine l_nil ?_
                    exact IH (i + 1, vr) _ _ (by dsimp only; omega) ⟨rfl, rfl, rfl, rfl, trivial⟩ ⟨by omega, (Own.recast2 S42 (oc_lo0 ha hg65 (by simpa using hg73) hc77))⟩
              · skip
                refine l_pass rfl ?_
                refine l_pass rfl ?_
                refine l_pass rfl ?_
                refine l_x rfl (x_pick_f rfl rfl) ?_
                refine l_nil ?_
                refine r_false rfl ?_
                refine r_skip ?_
                refine r_seq ?_
                refine r_region ?_
                refine l_x rfl (x_mv rfl) ?_
                refine l_x rfl (x_fieldAddr rfl Try.runUnderlying39 rfl Try.sizeOf3 (by decide)) ?_
                refine l_x rfl (x_load rfl (ld_blk (S42.blk 4 rfl) Try.isAgg3 rfl)) ?_
                refine l_index EB rfl (vec_rd (S42.at 3 rfl)) rfl rfl Try.runUnderlying101 Try.sizeOf4 (by omega) (mk_get (by omega)) ?_
                intro b64 o65 hat66 row67
                refine l_x rfl (x_load rfl (ld_cell Try.isAgg4 (row67 0 _ rfl))) ?_
                refine l_x rfl (x_not rfl) ?_
                refine l_x rfl (x_mv rfl) ?_
                refine l_split (d := 88) rfl (fun hg88 => ?_) (fun hg88 => ?_)
                · rw [hg65] at hg88; exact absurd hg88 (by decide)
                · skip
                  refine l_pass rfl ?_
                  refine l_pass rfl ?_
                  refine l_pass rfl ?_
                  refine l_pass rfl ?_
                  refine l_pass rfl ?_
                  refine l_x rfl (x_pick_f rfl rfl) ?_
                  refine l_nil ?_
                  refine r_false rfl ?_
                  refine r_skip ?_
                  refine r_inBlock ?_
                  refine r_region ?_
                  refine l_x rfl (x_mv rfl) ?_
                  refine l_x rfl (x_add rfl rfl (by omega)) ?_
                  refine l_x rfl (x_as rfl) ?_
                  refine l_nil ?_
                  exact IH (i + 1, vr) _ _ (by dsimp only; omega) ⟨rfl, rfl, rfl, rfl, trivial⟩ ⟨by omega, (Own.recast2 S42 (oc_no ha hg65 (by simpa using hg73) rfl))⟩
            · skip
              refine l_pass rfl ?_
              refine l_pass rfl ?_
              refine l_pass rfl ?_
              refine l_pass rfl ?_
              refine l_pass rfl ?_
              refine l_pass rfl ?_
              refine l_x rfl (x_pick_f rfl rfl) ?_
              refine l_x rfl (x_mv rfl) ?_
              refine l_pass rfl ?_
              refine l_pass rfl ?_
              refine l_pass rfl ?_
              refine l_x rfl (x_pick_f rfl rfl) ?_
              refine l_nil ?_
              refine r_false rfl ?_
              refine r_skip ?_
              refine r_seq ?_
              refine r_region ?_
              refine l_x rfl (x_mv rfl) ?_
              refine l_x rfl (x_fieldAddr rfl Try.runUnderlying39 rfl Try.sizeOf3 (by decide)) ?_
              refine l_x rfl (x_load rfl (ld_blk (S42.blk 4 rfl) Try.isAgg3 rfl)) ?_
              refine l_index EB rfl (vec_rd (S42.at 3 rfl)) rfl rfl Try.runUnderlying101 Try.sizeOf4 (by omega) (mk_get (by omega)) ?_
              intro b68 o69 hat70 row71
              refine l_x rfl (x_load rfl (ld_cell Try.isAgg4 (row71 0 _ rfl))) ?_
              refine l_x rfl (x_not rfl) ?_
              refine l_x rfl (x_mv rfl) ?_
              refine l_split (d := 88) rfl (fun hg88 => ?_) (fun hg88 => ?_)
              · skip
                refine l_x rfl (x_mv rfl) ?_
                refine l_x rfl (x_fieldAddr rfl Try.runUnderlying39 rfl Try.sizeOf3 (by decide)) ?_
                refine l_x rfl (x_load rfl (ld_blk (S42.blk 4 rfl) Try.isAgg3 rfl)) ?_
                refine l_index EB rfl (vec_rd (S42.at 3 rfl)) rfl rfl Try.runUnderlying101 Try.sizeOf4 (by omega) (mk_get (by omega)) ?_
                intro b72 o73 hat74 row75
                refine l_x rfl (x_load rfl (ld_cell Try.isAgg4 (row75 0 _ rfl))) ?_
                refine l_x rfl (x_pick_t rfl rfl) ?_
                refine l_nil ?_
                refine r_if rfl (fun hc94 => ?_) (fun hc94 => ?_)
                · skip
                  refine r_region ?_
                  refine l_x rfl (x_mv rfl) ?_
                  refine l_x rfl (x_fieldAddr rfl Try.runUnderlying39 rfl Try.sizeOf3 (by decide)) ?_
                  refine l_x rfl (x_load rfl (ld_blk (S42.blk 4 rfl) Try.isAgg3 rfl)) ?_
                  refine l_call [] [] [_, _] rfl rfl Try.call82 rfl (c_rput0 _ _ _ _ rfl (by omega) (by have := cutl_len ns (arcs.take i); have := orecs_len (cutl ns (arcs.take i)); rw [List.length_take] at *; omega) _ (S42.lend 2 rfl)) ?_
                  intro v76 w77 hl79
                  have S78 := S42.back 2 rfl hl79
                  refine l_x rfl (x_as rfl) ?_
                  refine l_nil ?_
                  refine r_inBlock ?_
                  refine r_region ?_
                  refine l_x rfl (x_mv rfl) ?_
                  refine l_x rfl (x_add rfl rfl (by omega)) ?_
                  refine l_x rfl (x_as rfl) ?_
                  refine l_nil ?_
                  exact IH (i + 1, v76) _ _ (by dsimp only; omega) ⟨rfl, rfl, rfl, rfl, trivial⟩ ⟨by omega, (Own.recast2 S78 (oc_hi ha hg65 hc94))⟩
                · skip
                  refine r_skip ?_
                  refine r_inBlock ?_
                  refine r_region ?_
                  refine l_x rfl (x_mv rfl) ?_
                  refine l_x rfl (x_add rfl rfl (by omega)) ?_
                  refine l_x rfl (x_as rfl) ?_
                  refine l_nil ?_
                  exact IH (i + 1, vr) _ _ (by dsimp only; omega) ⟨rfl, rfl, rfl, rfl, trivial⟩ ⟨by omega, (Own.recast2 S42 (oc_no ha hg65 (by simpa using hc94) rfl))⟩
              · rw [hg65] at hg88; exact absurd hg88 (by decide)
          · skip
            have hie : i = arcs.length := by omega
            subst hie
            refine r_exit rfl ?_
            refine r_seq ?_
            refine r_region ?_
            refine l_x rfl (x_mv rfl) ?_
            refine l_x rfl (x_as rfl) ?_
            refine l_x rfl (x_as rfl) ?_
            refine l_nil ?_
            refine r_ret (rs := [.tmp 4, .tmp 5]) [_, _] Try.func28 rfl ⟨rfl, rfl, trivial⟩ ?_
            exact ⟨vr, congrArg (fun x => Value.tuple #[_, .int .i64 x]) ha0.symm, by rw [if_pos ha0, orec, if_neg hc23]; have hS := S1.new 2 rfl; rw [List.take_length] at hS; exact hS, S1.le⟩
        · exact absurd (hasc.symm.trans hbad) (by decide)

end Go.Proofs

/-
  Contracts of functions of the program: each by symbolic execution of its text.
-/
namespace Go.Proofs
open Go Go.Vk Go.Vk.Flow

/-- What the recursive closure of reached holds. -/
abbrev visR (N : Int) (hs : List Hd) (t : List Stp) (k : Int) (bA bB bC bD : Nat) (vs vh : Value) (C : List Bool) : Rsc :=
  pack [blk bA [vs] 101, vec EB vs C, blk bB [vh] 132, vec EH vh hs, pack (nest ES hs (byl N t)), blk bC [.int .i64 k] 3, blk bD [.func (.func 131) #[] #[.pointer (some ⟨bA, 0, none⟩), .pointer (some ⟨bB, 0, none⟩), .pointer (some ⟨bC, 0, none⟩), .pointer (some ⟨bD, 0, none⟩)]] 134]

set_option maxHeartbeats 2000000 in
/-- (*couchant/flow.carried).reached$1. -/
theorem c_visit0 (N : Int) (hs : List Hd) (t : List Stp) (k : Int) (bA bB bC bD : Nat) (vs vh : Value) (hlen : hs.length = N.toNat) (hst : ∀ s ∈ t, 0 ≤ s.dst ∧ s.dst < N) (htl : t.length ≤ 8000) (z : Int) (B : List Bool) (hz : 0 ≤ z ∧ z < N) (hN : N ≤ 1000) (hB : B.length = N.toNat)
    (ih : ∀ (C : List Bool) (u : Int) (w : World), C.count false < B.count false → C.length = N.toNat → 0 ≤ u ∧ u < N → Own (visR N hs t k bA bB bC bD vs vh C).fp w w [visR N hs t k bA bB bC bD vs vh C] →
      Cl Try.prog 131 #[.int .i64 u, .pointer (some ⟨bA, 0, none⟩), .pointer (some ⟨bB, 0, none⟩), .pointer (some ⟨bC, 0, none⟩), .pointer (some ⟨bD, 0, none⟩)] w fun _ w' => ∃ D, Dfs (byl N t) k u.toNat C D ∧ Own (visR N hs t k bA bB bC bD vs vh C).fp w w' [visR N hs t k bA bB bC bD vs vh D]) (w : World) (Sp : Own (visR N hs t k bA bB bC bD vs vh B).fp w w [visR N hs t k bA bB bC bD vs vh B]) :
    Cl Try.prog 131 #[.int .i64 z, .pointer (some ⟨bA, 0, none⟩), .pointer (some ⟨bB, 0, none⟩), .pointer (some ⟨bC, 0, none⟩), .pointer (some ⟨bD, 0, none⟩)] w fun _ w' => ∃ C, Dfs (byl N t) k z.toNat B C ∧ Own (visR N hs t k bA bB bC bD vs vh B).fp w w' [visR N hs t k bA bB bC bD vs vh C] := by
  have S := Sp.open
  obtain ⟨b0, hb0⟩ : ∃ b0, B[z.toNat]? = some b0 := ⟨_, List.getElem?_eq_getElem (by omega)⟩
  obtain ⟨h0, hh⟩ : ∃ h0, hs[z.toNat]? = some h0 := ⟨_, List.getElem?_eq_getElem (by omega)⟩
  have hl := byl_get (N := N) (t := t) (v := z.toNat) (by omega)
  have hll := List.length_filter_le (fun s : Stp => decide (s.src = ((z.toNat : Nat) : Int))) t
  refine fn_of_run (args := [_, _, _, _, _]) 33 Try.func131 rfl rfl rfl fun cs => ?_
  refine r_seq ?_
  refine r_seq ?_
  refine r_region ?_
  refine l_x rfl (x_load rfl (ld_blk (S.blk 0 rfl) Try.isAgg101 rfl)) ?_
  refine l_x rfl (x_mv rfl) ?_
  refine l_index EB rfl (vec_rd (S.at 1 rfl)) rfl rfl Try.runUnderlying101 Try.sizeOf4 (by omega) hb0 ?_
  intro b1 o2 hat3 row4
  refine l_x rfl (x_load rfl (ld_cell Try.isAgg4 (row4 0 _ rfl))) ?_
  refine l_nil ?_
  refine r_if rfl (fun hc11 => ?_) (fun hc11 => ?_)
  · skip
    refine r_ret (rs := []) [] Try.func131 rfl trivial ?_
    exact ⟨B, Dfs.same (by rw [hb0, hc11]), S.close⟩
  · skip
    have hbf : b0 = false := by simpa using hc11
    subst hbf
    refine r_skip ?_
    refine r_seq ?_
    refine r_region ?_
    refine l_x rfl (x_load rfl (ld_blk (S.blk 0 rfl) Try.isAgg101 rfl)) ?_
    refine l_x rfl (x_mv rfl) ?_
    refine l_index EB rfl (vec_rd (S.at 1 rfl)) rfl rfl Try.runUnderlying101 Try.sizeOf4 (by omega) hb0 ?_
    intro b5 o6 hat7 row8
    refine l_storevb (f := 0) S 1 rfl rfl hat7 rfl rfl Try.sizeOf4 hb0 (by decide) rfl ?_
    intro w9 S10 hk11
    refine l_nil ?_
    refine r_seq ?_
    refine r_region ?_
    refine l_x rfl (x_load rfl (ld_blk (S10.blk 2 rfl) Try.isAgg132 rfl)) ?_
    refine l_x rfl (x_mv rfl) ?_
    refine l_index EH rfl (vec_rd (S10.at 3 rfl)) rfl rfl Try.runUnderlying132 Try.sizeOf135 (by omega) hh ?_
    intro b12 o13 hat14 row15
    refine l_x rfl (x_load rfl (ld_cell Try.isAgg135 (row15 0 _ rfl))) ?_
    refine l_x rfl (x_len (nest_rd (S10.at 4 rfl) hh hl) rfl Try.runUnderlying135) ?_
    refine l_x rfl (x_mv rfl) ?_
    refine l_nil ?_
    refine r_block ?_
    refine r_loop (G := Nat × List Bool) (fun ⟨i, C⟩ => (t.filter fun s => decide (s.src = ((z.toNat : Nat) : Int))).length - i) (fun ⟨i, C⟩ => [(1, .pointer (some ⟨bA, 0, none⟩)), (2, .pointer (some ⟨bB, 0, none⟩)), (3, .pointer (some ⟨bC, 0, none⟩)), (4, .pointer (some ⟨bD, 0, none⟩)), (18, hv h0), (19, .int .i64 (t.filter fun s => decide (s.src = ((z.toNat : Nat) : Int))).length), (20, .int .i64 i)]) (fun ⟨i, C⟩ w' => (i ≤ (t.filter fun s => decide (s.src = ((z.toNat : Nat) : Int))).length) ∧ (DfsI (byl N t) k z.toNat (t.filter fun s => decide (s.src = ((z.toNat : Nat) : Int))) i B C) ∧ Own (visR N hs t k bA bB bC bD vs vh B).fp w w' [blk bA [vs] 101, vec EB vs C, blk bB [vh] 132, vec EH vh hs, pack (nest ES hs (byl N t)), blk bC [.int .i64 k] 3, blk bD [.func (.func 131) #[] #[.pointer (some ⟨bA, 0, none⟩), .pointer (some ⟨bB, 0, none⟩), .pointer (some ⟨bC, 0, none⟩), .pointer (some ⟨bD, 0, none⟩)]] 134]) (0, B.set z.toNat true) ⟨rfl, rfl, rfl, rfl, rfl, rfl, rfl, trivial⟩ ⟨Nat.zero_le _, DfsI.start, S10⟩ ?_
    rintro ⟨i, C⟩ ρ w1 ⟨hi, hI, S1⟩ IH
    refine r_seq ?_
    refine r_region ?_
    refine l_x rfl (x_lss rfl rfl) ?_
    refine l_nil ?_
    refine r_seq ?_
    refine r_ifd rfl (fun hc21 => ?_) (fun hc21 => ?_)
    · skip
      obtain ⟨s, hs9⟩ : ∃ s, (t.filter fun s => decide (s.src = ((z.toNat : Nat) : Int)))[i]? = some s := ⟨_, List.getElem?_eq_getElem (by omega)⟩
      have hsd := hst s (List.mem_filter.1 (List.mem_of_getElem? hs9)).1
      refine r_skip ?_
      refine r_seq ?_
      refine r_block ?_
      refine r_seq ?_
      refine r_region ?_
      refine l_index ES rfl (nest_rd (S1.at 4 rfl) hh hl) rfl rfl Try.runUnderlying135 Try.sizeOf126 (by omega) hs9 ?_
      intro b16 o17 hat18 row19
      refine l_x rfl (x_load rfl (ld_row Try.isAgg126 Try.sizeOf126 rfl row19)) ?_
      refine l_alloc S1 rfl Try.zeroValue126 rfl ?_
      intro b23 w20 S21 hl22
      refine l_stores S21 7 rfl rfl rfl rfl (ES.one _) Try.sizeOf126 (by first | exact Nat.le_refl _ | simp) (splice_all rfl) ?_
      intro w24 S25 hk26
      refine l_nil ?_
      refine r_seq ?_
      refine r_region ?_
      refine l_x rfl (x_fieldAddr rfl Try.runUnderlying126 rfl Try.sizeOf3 (by decide)) ?_
      refine l_x rfl (x_load rfl (ld_blk (S25.blk 7 rfl) Try.isAgg3 rfl)) ?_
      refine l_x rfl (x_load rfl (ld_blk (S25.blk 5 rfl) Try.isAgg3 rfl)) ?_
      refine l_x rfl (x_neq rfl rfl) ?_
      refine l_nil ?_
      refine r_ifd rfl (fun hc27 => ?_) (fun hc27 => ?_)
      · skip
        refine r_region ?_
        refine l_x rfl (x_load rfl (ld_blk (S25.blk 6 rfl) Try.isAgg134 rfl)) ?_
        refine l_x rfl (x_fieldAddr rfl Try.runUnderlying126 rfl Try.sizeOf3 (by decide)) ?_
        refine l_x rfl (x_load rfl (ld_blk (S25.blk 7 rfl) Try.isAgg3 rfl)) ?_
        have Sa : Own _ _ _ [_, _, _, _, _, _, _, _] := S25.pick [7, 0, 1, 2, 3, 4, 5, 6] (by decide) rfl
        have Sb := Own.pack (A := [_]) (L := [_, _, _, _, _, _, _]) Sa
        refine l_call [] [_, _, _, _] [_, _, _, _, _] rfl rfl Try.call131 rfl (ih C s.dst _ (hI.count hb0) (hI.len.trans hB) hsd (Sb.lend 1 rfl)) ?_
        rintro _ w27 ⟨D30, hD31, hback28⟩
        have S29 := Own.unpack (A := [_]) (L := [_, _, _, _, _, _, _]) (Sb.back 1 rfl hback28)
        refine l_nil ?_
        refine r_inBlock ?_
        refine r_region ?_
        refine l_x rfl (x_add rfl rfl (by omega)) ?_
        refine l_x rfl (x_mv rfl) ?_
        refine l_nil ?_
        exact IH (i + 1, D30) _ _ (by dsimp only; omega) ⟨rfl, rfl, rfl, rfl, rfl, rfl, rfl, trivial⟩ ⟨by omega, hI.visit hl hs9 hc27 hD31, (S29.pick [1, 2, 3, 4, 5, 6, 7] (by decide) rfl)⟩
      · skip
        refine r_skip ?_
        refine r_inBlock ?_
        refine r_region ?_
        refine l_x rfl (x_add rfl rfl (by omega)) ?_
        refine l_x rfl (x_mv rfl) ?_
        refine l_nil ?_
        exact IH (i + 1, C) _ _ (by dsimp only; omega) ⟨rfl, rfl, rfl, rfl, rfl, rfl, rfl, trivial⟩ ⟨by omega, hI.skip hs9 (Decidable.not_not.1 hc27), (S25.take 7)⟩
    · skip
      have hie : i = (t.filter fun s => decide (s.src = ((z.toNat : Nat) : Int))).length := by omega
      subst hie
      refine r_exit rfl ?_
      refine r_end (rs := []) [] Try.func131 rfl trivial ?_
      exact ⟨C, hI.fin hl hb0, S1.close⟩

/-- The closure, however deep it calls itself. -/
theorem c_visit (N : Int) (hs : List Hd) (t : List Stp) (k : Int) (bA bB bC bD : Nat) (vs vh : Value) (hlen : hs.length = N.toNat) (hst : ∀ s ∈ t, 0 ≤ s.dst ∧ s.dst < N) (htl : t.length ≤ 8000) (hN : N ≤ 1000) : ∀ (n : Nat) (B : List Bool) (z : Int) (w : World), B.count false ≤ n → B.length = N.toNat → 0 ≤ z ∧ z < N → Own (visR N hs t k bA bB bC bD vs vh B).fp w w [visR N hs t k bA bB bC bD vs vh B] →
    Cl Try.prog 131 #[.int .i64 z, .pointer (some ⟨bA, 0, none⟩), .pointer (some ⟨bB, 0, none⟩), .pointer (some ⟨bC, 0, none⟩), .pointer (some ⟨bD, 0, none⟩)] w fun _ w' => ∃ C, Dfs (byl N t) k z.toNat B C ∧ Own (visR N hs t k bA bB bC bD vs vh B).fp w w' [visR N hs t k bA bB bC bD vs vh C] := by
  intro n
  induction n with
  | zero => intro B z w hn hB hz S0; exact c_visit0 N hs t k bA bB bC bD vs vh hlen hst htl z B hz hN hB (fun C u w1 h => absurd h (by omega)) w S0
  | succ n ih => intro B z w hn hB hz S0; exact c_visit0 N hs t k bA bB bC bD vs vh hlen hst htl z B hz hN hB (fun C u w1 h hC hu S1 => ih C u w1 (by omega) hC hu S1) w S0

set_option maxHeartbeats 2000000 in
/-- (*couchant/flow.carried).reached. -/
theorem c_reached (N : Int) (va : Value) (arcs : List Arc) (vx : Value) (x : List Int) (vw : Value) (wl : List Int) (m p : Nat → Int) (hV : Valid N arcs) (hx0 : Amts arcs x) (hw0 : Wts arcs wl) (hp : ∀ v, -10000000 ≤ p v ∧ p v ≤ 10000000) (bc : Nat) (z k : Int) (hz : 0 ≤ z ∧ z < N) (w : World) (hq : CarR w bc N va arcs vx x vw wl m p) :
    Cl Try.prog 106 #[.pointer (some ⟨bc, 0, none⟩), .int .i64 z, .int .i64 k] w fun v w' => ∃ D, New w w' (vec EB v D) ∧ Le w w' ∧ Dfs (byl N (stps p 0 arcs x wl)) k z.toNat (List.replicate N.toNat false) D := by
  have hNx := hV.max
  have hN1 := hV.pos
  have hLx := hV.len
  have htl := stps_len p 0 arcs x wl
  refine fn_of_run (args := [_, _, _]) 23 Try.func106 rfl rfl rfl fun cs => ?_
  have S := Own.start (X := nob) w
  refine r_seq ?_
  refine r_region ?_
  refine l_box S rfl rfl ?_
  intro b4 w1 S2 hl3
  refine l_x rfl (x_as rfl) ?_
  refine l_nil ?_
  refine r_seq ?_
  refine r_region ?_
  refine l_x rfl (x_mv rfl) ?_
  refine l_call [] [] [_] rfl rfl Try.call130 rfl (c_by N va arcs vx x vw wl m p hV hx0 hw0 hp bc _ (hq.le S2.le)) ?_
  rintro vh w5 ⟨hs, hlen, h7⟩
  have S6 := S2.join h7
  refine l_alloc S6 rfl Try.zeroValue132 rfl ?_
  intro b11 w8 S9 hl10
  refine l_storeq (c' := [_]) (v := vh) S9 3 rfl rfl rfl rfl (Rd.one (vec_rd (S9.at 1 rfl))) Try.sizeOf132 (by simp) rfl ?_
  intro w12 S13 hk14
  refine l_nil ?_
  refine r_seq ?_
  refine r_region ?_
  refine l_x rfl (x_mv rfl) ?_
  refine l_x rfl (x_nilCheck rfl) ?_
  refine l_x rfl (x_fieldAddr rfl Try.runUnderlying91 rfl Try.sizeOf24 (by decide)) ?_
  refine l_x rfl (x_fieldAddr rfl Try.runUnderlying24 rfl Try.sizeOf3 (by decide)) ?_
  refine l_x rfl (x_load rfl (ld_blk (hq.le S13.le).blk Try.isAgg3 rfl)) ?_
  refine l_make EB false S13 rfl Try.runUnderlying101 Try.sizeOf4 Try.typeInfo4 Try.zeroValue4 rfl rfl (congrArg (Value.int .i64) (Int.toNat_of_nonneg (by omega)).symm) (congrArg (Value.int .i64) (Int.toNat_of_nonneg (by omega)).symm) (Nat.le_refl _) (by unfold maxLen; omega) (by show _ * 1 ≤ _; omega) ?_
  intro v18 w15 hv19 S16 hl17
  refine l_alloc S16 rfl Try.zeroValue101 rfl ?_
  intro b23 w20 S21 hl22
  refine l_storeq (c' := [_]) (v := v18) S21 5 rfl rfl rfl rfl (Rd.one (vec_rd (S21.at 4 rfl))) Try.sizeOf101 (by simp) rfl ?_
  intro w24 S25 hk26
  refine l_nil ?_
  refine r_seq ?_
  refine r_region ?_
  refine l_alloc S25 rfl Try.zeroValue134 rfl ?_
  intro b30 w27 S28 hl29
  refine l_nil ?_
  refine r_seq ?_
  refine r_region ?_
  refine l_x rfl (x_func rfl rfl) ?_
  refine l_storeq (c' := [_]) S28 6 rfl rfl rfl rfl rfl Try.sizeOf134 (by simp) rfl ?_
  intro w31 S32 hk33
  refine l_nil ?_
  refine r_seq ?_
  refine r_region ?_
  refine l_x rfl (x_load rfl (ld_blk (S32.blk 6 rfl) Try.isAgg134 rfl)) ?_
  refine l_x rfl (x_mv rfl) ?_
  have Sa : Own _ _ _ [_, _, _, _, _, _, _] := S32.pick [5, 4, 3, 1, 2, 0, 6] (by decide) rfl
  have Sb := Sa.close
  refine l_call [] [_, _, _, _] [_, _, _, _, _] rfl rfl Try.call131 rfl (c_visit N hs (stps p 0 arcs x wl) k _ _ _ _ _ _ hlen (fun s hs => (stps_ok hV hs).2.2.imp_right fun h => h.1) (by omega) hNx _ (List.replicate N.toNat false) z _ (Nat.le_refl _) List.length_replicate hz (Sb.lend 0 rfl)) ?_
  rintro _ w34 ⟨D, hD, hback35⟩
  have S36 := (Sb.back 0 rfl hback35).open
  refine l_nil ?_
  refine r_seq ?_
  refine r_region ?_
  refine l_x rfl (x_load rfl (ld_blk (S36.blk 0 rfl) Try.isAgg101 rfl)) ?_
  refine l_x rfl (x_as rfl) ?_
  refine l_nil ?_
  refine r_ret (rs := [.tmp 6]) [_] Try.func106 rfl ⟨rfl, trivial⟩ ?_
  exact ⟨D, S36.new 1 rfl, S36.le, hD⟩

end Go.Proofs

/-
  Contracts of functions of the program: each by symbolic execution of its text.
-/
namespace Go.Proofs
open Go Go.Vk Go.Vk.Flow

abbrev EC := cirE 75
theorem keyI : KeyOk Try.prog 3 (.int .i64) kInt := keyInt Try.underlying3
theorem info75 : Try.prog.info? 75 = some Try.t75 := by kernel_rfl
theorem size75 : (Try.prog.info? 75).map (·.size) = some 2 := by rw [info75]; rfl

set_option maxHeartbeats 4000000 in
/-- couchant/flow.circular. -/
theorem c_circular (N : Int) (va : Value) (arcs : List Arc) (h : Hd) (l : List Int) (m : Int) (hV : Valid N arcs) (hm : l.length ≤ 9223372036854775806) (w : World) (hA : Rd EA w va arcs) (hL : Rd EI w (hv h) l) :
    Cl Try.prog 110 #[.agg #[.int .i64 N, va], .agg #[hv h, .int .i64 m]] w fun v w' => v = .bool (cirB arcs (l, m)) ∧ Le w w' := by
  have hLx := hV.len
  refine fn_of_run (args := [_, _]) 85 Try.func110 rfl rfl rfl fun cs => ?_
  have S := Own.start (X := nob) w
  refine r_seq ?_
  refine r_region ?_
  refine l_box S rfl rfl ?_
  intro b4 w1 S2 hl3
  refine l_box S2 rfl rfl ?_
  intro b8 w5 S6 hl7
  refine l_x rfl (x_as rfl) ?_
  refine l_nil ?_
  refine r_seq ?_
  refine r_seq ?_
  refine r_region ?_
  refine l_x rfl (x_fieldAddr rfl Try.runUnderlying75 rfl Try.sizeOf25 (by decide)) ?_
  refine l_x rfl (x_load rfl (ld_blk (S6.blk 1 rfl) Try.isAgg25 rfl)) ?_
  refine l_x rfl (x_len (hL.le S6.le) rfl Try.runUnderlying25) ?_
  refine l_x rfl (x_eql rfl rfl) ?_
  refine l_x rfl (x_mv rfl) ?_
  refine l_splitd (d := 13) rfl (fun hg13 => ?_) (fun hg13 => ?_)
  · skip
    refine l_pass rfl ?_
    refine l_pass rfl ?_
    refine l_pass rfl ?_
    refine l_pass rfl ?_
    refine l_x rfl (x_pick_t rfl rfl) ?_
    refine l_nil ?_
    refine r_true rfl ?_
    refine r_seq ?_
    refine r_region ?_
    refine l_x rfl (x_as rfl) ?_
    refine l_nil ?_
    refine r_ret (rs := [.tmp 4]) [_] Try.func110 rfl ⟨rfl, trivial⟩ ?_
    exact ⟨congrArg Value.bool (no_len (by omega)).symm, S6.le⟩
  · skip
    refine l_x rfl (x_fieldAddr rfl Try.runUnderlying75 rfl Try.sizeOf3 (by decide)) ?_
    refine l_x rfl (x_load rfl (ld_blk (S6.blk 1 rfl) Try.isAgg3 rfl)) ?_
    refine l_call [] [] [_, _, _] rfl rfl Try.call64 rfl (c_in _ _ _ _) ?_
    rintro _ w9 ⟨rfl, hl11⟩
    have S10 := S6.step hl11
    refine l_x rfl (x_notd rfl) ?_
    refine l_x rfl (x_pick_f rfl rfl) ?_
    refine l_nil ?_
    refine r_ifd rfl (fun hc18 => ?_) (fun hc18 => ?_)
    · skip
      refine r_seq ?_
      refine r_region ?_
      refine l_x rfl (x_as rfl) ?_
      refine l_nil ?_
      refine r_ret (rs := [.tmp 4]) [_] Try.func110 rfl ⟨rfl, trivial⟩ ?_
      exact ⟨congrArg Value.bool (no_am hc18).symm, S10.le⟩
    · skip
      have ham := Decidable.not_not.1 hc18
      refine r_skip ?_
      refine r_seq ?_
      refine r_region ?_
      refine l_makeMap kInt Value.bool S10 rfl ?_
      intro m15 w12 S13 hl14
      refine l_x rfl (x_as rfl) ?_
      refine l_nil ?_
      refine r_seq ?_
      refine r_seq ?_
      refine r_region ?_
      refine l_x rfl (x_fieldAddr rfl Try.runUnderlying75 rfl Try.sizeOf25 (by decide)) ?_
      refine l_x rfl (x_load rfl (ld_blk (S13.blk 1 rfl) Try.isAgg25 rfl)) ?_
      refine l_x rfl (x_len (hL.le S13.le) rfl Try.runUnderlying25) ?_
      refine l_x rfl (x_mv rfl) ?_
      refine l_nil ?_
      refine r_block ?_
      refine r_loop (G := Nat) (fun k => l.length - k) (fun k => [(2, .pointer (some ⟨b4, 0, none⟩)), (3, .pointer (some ⟨b8, 0, none⟩)), (5, .map (some m15)), (21, hv h), (22, .int .i64 l.length), (23, .int .i64 k)]) (fun k w' => (k ≤ l.length) ∧ (CirI arcs l (LdN arcs l) k) ∧ Own nob w w' [blk b4 [.int .i64 N, va] 24, blk b8 [hv h, .int .i64 m] 75, mapr kInt Value.bool m15 (seenM arcs l k)]) 0 ⟨rfl, rfl, rfl, rfl, rfl, rfl, trivial⟩ ⟨Nat.zero_le _, CirI.zero, (by rw [seenM_zero]; exact S13)⟩ ?_
      rintro k ρ w1 ⟨hi, hI, S1⟩ IH
      refine r_seq ?_
      refine r_region ?_
      refine l_x rfl (x_lss rfl rfl) ?_
      refine l_nil ?_
      refine r_seq ?_
      refine r_ifd rfl (fun hc24 => ?_) (fun hc24 => ?_)
      · skip
        obtain ⟨i, hi9⟩ : ∃ i, l[k]? = some i := ⟨_, List.getElem?_eq_getElem (by omega)⟩
        refine r_skip ?_
        refine r_seq ?_
        refine r_block ?_
        refine r_seq ?_
        refine r_region ?_
        refine l_x rfl (x_mv rfl) ?_
        refine l_index EI rfl (hL.le S1.le) rfl rfl Try.runUnderlying25 Try.sizeOf3 (by omega) hi9 ?_
        intro b16 o17 hat18 row19
        refine l_x rfl (x_load rfl (ld_cell Try.isAgg3 (row19 0 _ rfl))) ?_
        refine l_x rfl (x_as rfl) ?_
        refine l_x rfl (x_as rfl) ?_
        refine l_nil ?_
        refine r_seq ?_
        refine r_seq ?_
        refine r_region ?_
        refine l_x rfl (x_mv rfl) ?_
        refine l_x rfl (x_fieldAddr rfl Try.runUnderlying24 rfl Try.sizeOf22 (by decide)) ?_
        refine l_x rfl (x_load rfl (ld_blk (S1.blk 0 rfl) Try.isAgg22 rfl)) ?_
        refine l_x rfl (x_len (hA.le S1.le) rfl Try.runUnderlying22) ?_
        refine l_x rfl (x_sub rfl rfl (by omega)) ?_
        refine l_call [] [] [_, _, _] rfl rfl Try.call64 rfl (c_in _ _ _ _) ?_
        rintro _ w20 ⟨rfl, hl22⟩
        have S21 := S1.step hl22
        refine l_x rfl (x_notd rfl) ?_
        refine l_nil ?_
        refine r_ifd rfl (fun hc34 => ?_) (fun hc34 => ?_)
        · skip
          refine r_seq ?_
          refine r_region ?_
          refine l_x rfl (x_as rfl) ?_
          refine l_nil ?_
          refine r_ret (rs := [.tmp 4]) [_] Try.func110 rfl ⟨rfl, trivial⟩ ?_
          exact ⟨congrArg Value.bool (no_ok hi9 (by omega)).symm, S21.le⟩
        · skip
          have hir : 0 ≤ i ∧ i < arcs.length := by omega
          obtain ⟨a, ha⟩ : ∃ a, arcs[i.toNat]? = some a := ⟨_, List.getElem?_eq_getElem (by omega)⟩
          refine r_skip ?_
          refine r_seq ?_
          obtain ⟨i2, hi2⟩ : ∃ i2, l[nx l.length k]? = some i2 := ⟨_, List.getElem?_eq_getElem (nx_lt (by omega))⟩
          have hq2 : l[(((k : Int) + 1) % (l.length : Int)).toNat]? = some i2 := by rw [nx_cast]; exact hi2
          refine r_drawR 11 Try.mixed (by kernel_rfl) ?_
          refine w_x rfl (fun w1 h1 => x_fieldAddr rfl Try.runUnderlying75 rfl Try.sizeOf25 (by decide)) ?_
          refine w_x rfl (fun w1 h1 => x_load rfl (ld_blk ((S21.step h1).blk 1 rfl) Try.isAgg25 rfl)) ?_
          refine w_x rfl (fun w1 h1 => x_mv rfl) ?_
          refine w_x rfl (fun w1 h1 => x_add rfl rfl (by omega)) ?_
          refine w_x rfl (fun w1 h1 => x_fieldAddr rfl Try.runUnderlying75 rfl Try.sizeOf25 (by decide)) ?_
          refine w_x rfl (fun w1 h1 => x_load rfl (ld_blk ((S21.step h1).blk 1 rfl) Try.isAgg25 rfl)) ?_
          refine w_x rfl (fun w1 h1 => x_len (hL.le (S21.step h1).le) rfl Try.runUnderlying25) ?_
          refine w_x rfl (fun w1 h1 => x_rem rfl rfl (by omega)) ?_
          refine w_index EI rfl (hL.le S21.le) rfl rfl Try.runUnderlying25 Try.sizeOf3 (Int.emod_nonneg _ (by omega)) hq2 ?_
          intro b23 o24 hat25 row26
          refine w_x rfl (fun w1 h1 => x_load rfl (ld_cell Try.isAgg3 ((row26.le h1) 0 _ rfl))) ?_
          refine w_x rfl (fun w1 h1 => x_as rfl) ?_
          refine w_nil ?_
          intro w27 hl28
          have S29 := S21.step hl28
          refine l_nil ?_
          refine r_seq ?_
          refine r_seq ?_
          refine r_drawR 32 Try.mixed (by kernel_rfl) ?_
          refine w_x rfl (fun w1 h1 => x_mv rfl) ?_
          refine w_x rfl (fun w1 h1 => x_fieldAddr rfl Try.runUnderlying24 rfl Try.sizeOf22 (by decide)) ?_
          refine w_x rfl (fun w1 h1 => x_load rfl (ld_blk ((S29.step h1).blk 0 rfl) Try.isAgg22 rfl)) ?_
          refine w_x rfl (fun w1 h1 => x_len (hA.le (S29.step h1).le) rfl Try.runUnderlying22) ?_
          refine w_x rfl (fun w1 h1 => x_sub rfl rfl (by omega)) ?_
          refine wd_call [] [] [_, _, _] rfl rfl Try.call64 rfl (fun w1 h1 => c_in _ _ _ _) ?_
          refine w_x rfl (fun w1 h1 => x_notd rfl) ?_
          refine w_x rfl (fun w1 h1 => x_mv rfl) ?_
          refine w_splitd (d := 52) rfl (fun hg52 => ?_) (fun hg52 => ?_)
          · skip
            refine w_pass rfl ?_
            refine w_pass rfl ?_
            refine w_pass rfl ?_
            refine w_pass rfl ?_
            refine w_pass rfl ?_
            refine w_pass rfl ?_
            refine w_pass rfl ?_
            refine w_pass rfl ?_
            refine w_pass rfl ?_
            refine w_pass rfl ?_
            refine w_pass rfl ?_
            refine w_pass rfl ?_
            refine w_pass rfl ?_
            refine w_x rfl (fun w1 h1 => x_pick_t rfl rfl) ?_
            refine w_x rfl (fun w1 h1 => x_mv rfl) ?_
            refine w_pass rfl ?_
            refine w_pass rfl ?_
            refine w_pass rfl ?_
            refine w_pass rfl ?_
            refine w_pass rfl ?_
            refine w_pass rfl ?_
            refine w_pass rfl ?_
            refine w_pass rfl ?_
            refine w_x rfl (fun w1 h1 => x_pick_t rfl rfl) ?_
            refine w_nil ?_
            intro w30 hl31
            have S32 := S29.step hl31
            refine l_nil ?_
            refine r_true rfl ?_
            refine r_seq ?_
            refine r_region ?_
            refine l_x rfl (x_as rfl) ?_
            refine l_nil ?_
            refine r_ret (rs := [.tmp 4]) [_] Try.func110 rfl ⟨rfl, trivial⟩ ?_
            exact ⟨congrArg Value.bool (no_ok hi2 (by omega)).symm, S32.le⟩
          · skip
            have hir2 : 0 ≤ i2 ∧ i2 < arcs.length := by omega
            obtain ⟨b, hb⟩ : ∃ b, arcs[i2.toNat]? = some b := ⟨_, List.getElem?_eq_getElem (by omega)⟩
            refine w_x rfl (fun w1 h1 => x_fieldAddr rfl Try.runUnderlying24 rfl Try.sizeOf22 (by decide)) ?_
            refine w_x rfl (fun w1 h1 => x_load rfl (ld_blk ((S29.step h1).blk 0 rfl) Try.isAgg22 rfl)) ?_
            refine w_x rfl (fun w1 h1 => x_mv rfl) ?_
            refine w_index EA rfl (hA.le S29.le) rfl rfl Try.runUnderlying22 Try.sizeOf39 (by omega) ha ?_
            intro b33 o34 hat35 row36
            refine w_x rfl (fun w1 h1 => x_fieldAddr rfl Try.runUnderlying39 rfl Try.sizeOf3 (by decide)) ?_
            refine w_x rfl (fun w1 h1 => x_load rfl (ld_cell Try.isAgg3 ((row36.le h1) 1 _ rfl))) ?_
            refine w_x rfl (fun w1 h1 => x_fieldAddr rfl Try.runUnderlying24 rfl Try.sizeOf22 (by decide)) ?_
            refine w_x rfl (fun w1 h1 => x_load rfl (ld_blk ((S29.step h1).blk 0 rfl) Try.isAgg22 rfl)) ?_
            refine w_x rfl (fun w1 h1 => x_mv rfl) ?_
            refine w_index EA rfl (hA.le S29.le) rfl rfl Try.runUnderlying22 Try.sizeOf39 (by omega) hb ?_
            intro b37 o38 hat39 row40
            refine w_x rfl (fun w1 h1 => x_fieldAddr rfl Try.runUnderlying39 rfl Try.sizeOf3 (by decide)) ?_
            refine w_x rfl (fun w1 h1 => x_load rfl (ld_cell Try.isAgg3 ((row40.le h1) 0 _ rfl))) ?_
            refine w_x rfl (fun w1 h1 => x_neq rfl rfl) ?_
            refine w_x rfl (fun w1 h1 => x_pick_f rfl rfl) ?_
            refine w_x rfl (fun w1 h1 => x_mv rfl) ?_
            refine w_splitd (d := 67) rfl (fun hg67 => ?_) (fun hg67 => ?_)
            · skip
              refine w_pass rfl ?_
              refine w_pass rfl ?_
              refine w_pass rfl ?_
              refine w_pass rfl ?_
              refine w_pass rfl ?_
              refine w_pass rfl ?_
              refine w_pass rfl ?_
              refine w_pass rfl ?_
              refine w_x rfl (fun w1 h1 => x_pick_t rfl rfl) ?_
              refine w_nil ?_
              intro w41 hl42
              have S43 := S29.step hl42
              refine l_nil ?_
              refine r_true rfl ?_
              refine r_seq ?_
              refine r_region ?_
              refine l_x rfl (x_as rfl) ?_
              refine l_nil ?_
              refine r_ret (rs := [.tmp 4]) [_] Try.func110 rfl ⟨rfl, trivial⟩ ?_
              exact ⟨congrArg Value.bool (no_leadN hi9 hi2 ha hb hg67).symm, S43.le⟩
            · skip
              refine w_x rfl (fun w1 h1 => x_mv rfl) ?_
              refine w_x rfl (fun w1 h1 => x_fieldAddr rfl Try.runUnderlying24 rfl Try.sizeOf22 (by decide)) ?_
              refine w_x rfl (fun w1 h1 => x_load rfl (ld_blk ((S29.step h1).blk 0 rfl) Try.isAgg22 rfl)) ?_
              refine w_x rfl (fun w1 h1 => x_mv rfl) ?_
              refine w_index EA rfl (hA.le S29.le) rfl rfl Try.runUnderlying22 Try.sizeOf39 (by omega) ha ?_
              intro b44 o45 hat46 row47
              refine w_x rfl (fun w1 h1 => x_fieldAddr rfl Try.runUnderlying39 rfl Try.sizeOf3 (by decide)) ?_
              refine w_x rfl (fun w1 h1 => x_load rfl (ld_cell Try.isAgg3 ((row47.le h1) 0 _ rfl))) ?_
              refine w_x rfl (fun w1 h1 => x_lookup ((S29.step h1).at 2 rfl) keyI Try.runUnderlying137 rfl rfl Try.zeroValue4 seenM_val) ?_
              refine w_x rfl (fun w1 h1 => x_pick_f rfl rfl) ?_
              refine w_nil ?_
              intro w48 hl49
              have S50 := S29.step hl49
              refine l_nil ?_
              refine r_if rfl (fun hc76 => ?_) (fun hc76 => ?_)
              · skip
                refine r_seq ?_
                refine r_region ?_
                refine l_x rfl (x_as rfl) ?_
                refine l_nil ?_
                refine r_ret (rs := [.tmp 4]) [_] Try.func110 rfl ⟨rfl, trivial⟩ ?_
                exact ⟨congrArg Value.bool (no_once hi9 ha hc76).symm, S50.le⟩
              · skip
                refine r_skip ?_
                refine r_region ?_
                refine l_x rfl (x_mv rfl) ?_
                refine l_x rfl (x_fieldAddr rfl Try.runUnderlying24 rfl Try.sizeOf22 (by decide)) ?_
                refine l_x rfl (x_load rfl (ld_blk (S50.blk 0 rfl) Try.isAgg22 rfl)) ?_
                refine l_x rfl (x_mv rfl) ?_
                refine l_index EA rfl (hA.le S50.le) rfl rfl Try.runUnderlying22 Try.sizeOf39 (by omega) ha ?_
                intro b51 o52 hat53 row54
                refine l_x rfl (x_fieldAddr rfl Try.runUnderlying39 rfl Try.sizeOf3 (by decide)) ?_
                refine l_x rfl (x_load rfl (ld_cell Try.isAgg3 (row54 0 _ rfl))) ?_
                refine l_mapUpdate S50 2 rfl rfl keyI Try.runUnderlying137 rfl rfl rfl ?_
                intro w55 S56 hk57
                refine l_nil ?_
                refine r_inBlock ?_
                refine r_region ?_
                refine l_x rfl (x_add rfl rfl (by omega)) ?_
                refine l_x rfl (x_mv rfl) ?_
                refine l_nil ?_
                exact IH (k + 1) _ _ (by omega) ⟨rfl, rfl, rfl, rfl, rfl, rfl, trivial⟩ ⟨by omega, hI.step hi9 hir ha (leads_of hi9 hi2 ha hb (Decidable.not_not.1 hg67)) hc76, (by rw [← seenM_step hi9 ha]; exact S56)⟩
      · skip
        have hie : k = l.length := by omega
        subst hie
        refine r_exit rfl ?_
        refine r_seq ?_
        refine r_region ?_
        refine l_x rfl (x_as rfl) ?_
        refine l_nil ?_
        refine r_ret (rs := [.tmp 4]) [_] Try.func110 rfl ⟨rfl, trivial⟩ ?_
        exact ⟨congrArg Value.bool (hI.doneN (by omega) ham).symm, S1.le⟩

/-- couchant/flow.FromCircles$1. -/
theorem c_FromCircles1 (N : Int) (va : Value) (arcs : List Arc) (h : Hd) (l : List Int) (m : Int) (bg : Nat) (hV : Valid N arcs) (hm : l.length ≤ 9223372036854775806) (w : World) (hg : Blk w bg [.int .i64 N, va] 24) (hA : Rd EA w va arcs) (hL : Rd EI w (hv h) l) :
    Cl Try.prog 109 #[.agg #[hv h, .int .i64 m], .pointer (some ⟨bg, 0, none⟩)] w fun v w' => v = .bool (!cirB arcs (l, m)) ∧ Le w w' := by
  refine fn_of_run (args := [_, _]) 8 Try.func109 rfl rfl rfl fun cs => ?_
  have S := Own.start (X := nob) w
  refine r_seq ?_
  refine r_region ?_
  refine l_box S rfl rfl ?_
  intro b4 w1 S2 hl3
  refine l_x rfl (x_as rfl) ?_
  refine l_nil ?_
  refine r_seq ?_
  refine r_region ?_
  refine l_x rfl (x_load rfl (ld_blks (hg.keep S2.le id) Try.isAgg24 Try.sizeOf24 rfl rfl)) ?_
  refine l_x rfl (x_load rfl (ld_blks (S2.blk 0 rfl) Try.isAgg75 Try.sizeOf75 rfl rfl)) ?_
  refine l_call [] [] [_, _] rfl rfl Try.call110 rfl (c_circular _ _ _ _ _ _ hV hm _ (hA.le S2.le) (hL.le S2.le)) ?_
  rintro _ w5 ⟨rfl, hl7⟩
  have S6 := S2.step hl7
  refine l_x rfl (x_not rfl) ?_
  refine l_x rfl (x_as rfl) ?_
  refine l_nil ?_
  refine r_ret (rs := [.tmp 3]) [_] Try.func109 rfl ⟨rfl, trivial⟩ ?_
  exact ⟨rfl, S6.le⟩

/-- couchant/flow.FromCircles$2. -/
theorem c_FromCircles2 (n : Int) (w : World) :
    Cl Try.prog 112 #[.int .i64 n] w fun v w' => v = .bool (decide (1000000 < n)) ∧ Le w w' := by
  refine fn_of_run (args := [_]) 5 Try.func112 rfl rfl rfl fun cs => ?_
  have S := Own.start (X := nob) w
  refine r_seq ?_
  refine r_region ?_
  refine l_x rfl (x_as rfl) ?_
  refine l_nil ?_
  refine r_seq ?_
  refine r_region ?_
  refine l_x rfl (x_mv rfl) ?_
  refine l_x rfl (x_gtr rfl rfl) ?_
  refine l_x rfl (x_as rfl) ?_
  refine l_nil ?_
  refine r_ret (rs := [.tmp 2]) [_] Try.func112 rfl ⟨rfl, trivial⟩ ?_
  exact ⟨rfl, S.le⟩

/-- slices.IndexFunc[[]couchant/api.Circle,couchant/api.Circle]. -/
theorem c_IndexFuncCir (va : Value) (l : List (Hd × Int)) (p : (Hd × Int) → Bool) (kf : Nat) (caps : List Value) (hmx : l.length ≤ 9223372036854775807) (w : World) (hA : Rd EC w va l) (he : ∀ args w, (callFunc kf args).run Try.prog w = .ok (.enter kf args) w)
    (hf : ∀ x ∈ l, ∀ w1, Le w w1 → Cl Try.prog kf ([Value.agg (EC.enc x).toArray] ++ caps).toArray w1 fun v w2 => v = .bool (p x) ∧ Le w1 w2) :
    Cl Try.prog 132 #[va, .func (.func kf) #[] caps.toArray] w fun v w' => v = .int .i64 (idx p l) ∧ Le w w' := by
  refine fn_of_run (args := [_, _]) 19 Try.func132 rfl rfl rfl fun cs => ?_
  have S := Own.start (X := nob) w
  refine r_seq ?_
  refine r_region ?_
  refine l_x rfl (x_as rfl) ?_
  refine l_nil ?_
  refine r_seq ?_
  refine r_seq ?_
  refine r_region ?_
  refine l_x rfl (x_mv rfl) ?_
  refine l_x rfl (x_len (hA.le S.le) rfl Try.runUnderlying73) ?_
  refine l_x rfl (x_mv rfl) ?_
  refine l_nil ?_
  refine r_block ?_
  refine r_loop (G := Nat) (fun i => l.length - i) (fun i => [(0, va), (1, .func (.func kf) #[] caps.toArray), (8, .int .i64 i), (7, .int .i64 l.length)]) (fun i w' => (i ≤ l.length) ∧ (∀ x ∈ l.take i, p x = false) ∧ Own nob w w' []) 0 ⟨rfl, rfl, rfl, rfl, trivial⟩ ⟨Nat.zero_le _, by simp, S⟩ ?_
  rintro i ρ w1 ⟨hi, hno, S1⟩ IH
  refine r_seq ?_
  refine r_region ?_
  refine l_x rfl (x_lss rfl rfl) ?_
  refine l_nil ?_
  refine r_seq ?_
  refine r_ifd rfl (fun hc9 => ?_) (fun hc9 => ?_)
  · skip
    have ha : l[i]? = some l[i] := List.getElem?_eq_getElem (by omega)
    refine r_skip ?_
    refine r_seq ?_
    refine r_block ?_
    refine r_seq ?_
    refine r_region ?_
    refine l_x rfl (x_mv rfl) ?_
    refine l_x rfl (x_as rfl) ?_
    refine l_nil ?_
    refine r_seq ?_
    refine r_region ?_
    refine l_x rfl (x_mv rfl) ?_
    refine l_x rfl (x_mv rfl) ?_
    refine l_x rfl (x_mv rfl) ?_
    refine l_index EC rfl (hA.le S1.le) rfl rfl Try.runUnderlying73 Try.sizeOf75 (by omega) (by first | assumption | exact List.getElem?_eq_getElem (by omega)) ?_
    intro b1 o2 hat3 row4
    refine l_x rfl (x_load rfl (ld_row Try.isAgg75 Try.sizeOf75 rfl row4)) ?_
    refine l_call [] caps ([_] ++ caps) rfl rfl he rfl (hf _ (List.mem_of_getElem? ha) _ S1.le) ?_
    rintro _ w5 ⟨rfl, hl7⟩
    have S6 := S1.step hl7
    refine l_nil ?_
    refine r_if rfl (fun hc16 => ?_) (fun hc16 => ?_)
    · skip
      refine r_seq ?_
      refine r_region ?_
      refine l_x rfl (x_mv rfl) ?_
      refine l_x rfl (x_as rfl) ?_
      refine l_nil ?_
      refine r_ret (rs := [.tmp 4]) [_] Try.func132 rfl ⟨rfl, trivial⟩ ?_
      exact ⟨congrArg (Value.int .i64) (idx_at ha hc16 hno).symm, S6.le⟩
    · skip
      have hno' : ∀ x ∈ l.take (i + 1), p x = false := by
        intro x hx
        rw [List.take_add_one, ha] at hx
        rcases List.mem_append.1 hx with h | h
        · exact hno x h
        · simp at h; subst h; exact hc16
      refine r_skip ?_
      refine r_inBlock ?_
      refine r_region ?_
      refine l_x rfl (x_add rfl rfl (by omega)) ?_
      refine l_x rfl (x_mv rfl) ?_
      refine l_nil ?_
      exact IH (i + 1) _ _ (by omega) ⟨rfl, rfl, rfl, rfl, trivial⟩ ⟨by omega, hno', S6⟩
  · skip
    have hi : i = l.length := by omega
    subst hi
    refine r_exit rfl ?_
    refine r_seq ?_
    refine r_region ?_
    refine l_x rfl (x_as rfl) ?_
    refine l_nil ?_
    refine r_ret (rs := [.tmp 4]) [_] Try.func132 rfl ⟨rfl, trivial⟩ ?_
    exact ⟨congrArg (Value.int .i64) (idx_none (by rwa [List.take_length] at hno)).symm, S1.le⟩

/-- slices.ContainsFunc[[]couchant/api.Circle,couchant/api.Circle]. -/
theorem c_ContainsFuncCir (va : Value) (l : List (Hd × Int)) (p : (Hd × Int) → Bool) (kf : Nat) (caps : List Value) (hmx : l.length ≤ 9223372036854775807) (w : World) (hA : Rd EC w va l) (he : ∀ args w, (callFunc kf args).run Try.prog w = .ok (.enter kf args) w)
    (hf : ∀ x ∈ l, ∀ w1, Le w w1 → Cl Try.prog kf ([Value.agg (EC.enc x).toArray] ++ caps).toArray w1 fun v w2 => v = .bool (p x) ∧ Le w1 w2) :
    Cl Try.prog 108 #[va, .func (.func kf) #[] caps.toArray] w fun v w' => v = .bool (l.any p) ∧ Le w w' := by
  refine fn_of_run (args := [_, _]) 9 Try.func108 rfl rfl rfl fun cs => ?_
  have S := Own.start (X := nob) w
  refine r_seq ?_
  refine r_region ?_
  refine l_x rfl (x_as rfl) ?_
  refine l_nil ?_
  refine r_seq ?_
  refine r_region ?_
  refine l_x rfl (x_mv rfl) ?_
  refine l_x rfl (x_mv rfl) ?_
  refine l_call [] [] [_, _] rfl rfl Try.call132 rfl (c_IndexFuncCir _ _ p kf caps hmx _ (hA.le S.le) he (fun x hx w1 h1 => hf x hx w1 (S.le.trans h1))) ?_
  rintro _ w1 ⟨rfl, hl3⟩
  have S2 := S.step hl3
  refine l_x rfl (x_geq rfl rfl) ?_
  refine l_x rfl (x_as rfl) ?_
  refine l_nil ?_
  refine r_ret (rs := [.tmp 4]) [_] Try.func108 rfl ⟨rfl, trivial⟩ ?_
  exact ⟨congrArg Value.bool (Bool.eq_iff_iff.2 (by rw [decide_eq_true_iff]; exact idx_ge p l)), S2.le⟩

/-- Is one of the circles none? -/
theorem c_anyCir (N : Int) (va : Value) (arcs : List Arc) (vl : Value) (ds : List (Hd × Int)) (cs : List Crc) (bg : Nat) (hV : Valid N arcs) (hm : ∀ c ∈ cs, c.1.length ≤ 9223372036854775806) (hd : ds.length ≤ 9223372036854775807) (w : World) (hg : Blk w bg [.int .i64 N, va] 24) (hA : Rd EA w va arcs) (hC : CsR 3 75 w vl ds cs) :
    Cl Try.prog 108 #[vl, .func (.func 109) #[] #[.pointer (some ⟨bg, 0, none⟩)]] w fun v w' => v = .bool (ds.any (cirP arcs ds cs)) ∧ Le w w' :=
  c_ContainsFuncCir vl ds (cirP arcs ds cs) 109 [.pointer (some ⟨bg, 0, none⟩)] hd w hC.rd Try.call109 fun x hx w1 h1 => by
    obtain ⟨i, hi⟩ := List.mem_iff_getElem?.1 hx
    obtain ⟨c, hc⟩ : ∃ c, cs[i]? = some c := ⟨_, List.getElem?_eq_getElem (by have := (List.getElem?_eq_some_iff.1 hi).1; rw [← hC.len]; exact this)⟩
    obtain ⟨q1, q2⟩ := hC.each i x c hi hc
    have h2 := c_FromCircles1 N va arcs x.1 c.1 c.2 bg hV (hm c (List.mem_of_getElem? hc)) w1 (hg.keep h1 id) (hA.le h1) (q1.le h1)
    rw [← q2] at h2
    have e : (c.1, x.2) = c := by rw [q2]
    rw [e, ← hC.val hi hc] at h2
    exact h2

set_option maxHeartbeats 4000000 in
/-- couchant/flow.FromCircles. -/
theorem c_FromCircles (N : Int) (va : Value) (arcs : List Arc) (vl : Value) (ds : List (Hd × Int)) (zs : List Crc) (hm : ∀ c ∈ zs, c.1.length ≤ 9223372036854775806) (hmd : ds.length ≤ 9223372036854775806) (w : World) (hA : Rd EA w va arcs) (hC : CsR 3 75 w vl ds zs) :
    Cl Try.prog 57 #[.agg #[.int .i64 N, va], vl] w fun v w' => ∃ s l e, v = .tuple #[s, .int .i64 e] ∧ New w w' (vec EI s l) ∧ Le w w' ∧ FrcR N arcs zs l e := by
  refine fn_of_run (args := [_, _]) 53 Try.func57 rfl rfl rfl fun cs => ?_
  have S := Own.start (X := nob) w
  refine r_seq ?_
  refine r_region ?_
  refine l_box S rfl rfl ?_
  intro b4 w1 S2 hl3
  refine l_x rfl (x_as rfl) ?_
  refine l_x rfl (x_as rfl) ?_
  refine l_nil ?_
  refine r_seq ?_
  refine r_seq ?_
  refine r_region ?_
  refine l_x rfl (x_load rfl (ld_blks (S2.blk 0 rfl) Try.isAgg24 Try.sizeOf24 rfl rfl)) ?_
  refine l_call [] [] [_] rfl rfl Try.call36 rfl (c_Check N va arcs _ (hA.le S2.le)) ?_
  rintro _ w5 ⟨rfl, hl7⟩
  have S6 := S2.step hl7
  refine l_x rfl (x_as rfl) ?_
  refine l_nil ?_
  refine r_seq ?_
  refine r_region ?_
  refine l_x rfl (x_mv rfl) ?_
  refine l_x rfl (x_neq rfl rfl) ?_
  refine l_nil ?_
  refine r_ifd rfl (fun hc15 => ?_) (fun hc15 => ?_)
  · skip
    refine r_seq ?_
    refine r_region ?_
    refine l_x rfl (x_mv rfl) ?_
    refine l_x rfl (x_as rfl) ?_
    refine l_x rfl (x_as rfl) ?_
    refine l_nil ?_
    refine r_ret (rs := [.tmp 4, .tmp 5]) [_, _] Try.func57 rfl ⟨rfl, rfl, trivial⟩ ?_
    exact ⟨_, _, _, rfl, New.nilvec .., S6.le, .bad hc15⟩
  · skip
    have h0 := Decidable.not_not.1 hc15
    have hV := chk_zero.1 h0
    have hLx := hV.len
    refine r_skip ?_
    refine r_seq ?_
    refine r_seq ?_
    refine r_region ?_
    refine l_x rfl (x_mv rfl) ?_
    refine l_x rfl (x_len (hC.rd.le S6.le) rfl Try.runUnderlying73) ?_
    refine l_x rfl (x_gtr rfl rfl) ?_
    refine l_nil ?_
    refine r_ifd rfl (fun hc19 => ?_) (fun hc19 => ?_)
    · skip
      refine r_seq ?_
      refine r_region ?_
      refine l_x rfl (x_as rfl) ?_
      refine l_x rfl (x_as rfl) ?_
      refine l_nil ?_
      refine r_ret (rs := [.tmp 4, .tmp 5]) [_, _] Try.func57 rfl ⟨rfl, rfl, trivial⟩ ?_
      exact ⟨_, _, _, rfl, New.nilvec .., S6.le, .many h0 (by have := hC.len; omega)⟩
    · skip
      have hCl := hC.len
      refine r_skip ?_
      refine r_seq ?_
      refine r_seq ?_
      refine r_region ?_
      refine l_x rfl (x_mv rfl) ?_
      refine l_x rfl (x_func rfl rfl) ?_
      refine l_call [] [] [_, _] rfl rfl Try.call108 rfl (c_anyCir N va arcs _ ds zs _ hV hm (by have := hC.len; omega) _ (S6.blk 0 rfl) (hA.le S6.le) (hC.le S6.le)) ?_
      rintro _ w8 ⟨rfl, hl10⟩
      have S9 := S6.step hl10
      refine l_nil ?_
      refine r_if rfl (fun hc22 => ?_) (fun hc22 => ?_)
      · skip
        refine r_seq ?_
        refine r_region ?_
        refine l_x rfl (x_as rfl) ?_
        refine l_x rfl (x_as rfl) ?_
        refine l_nil ?_
        refine r_ret (rs := [.tmp 4, .tmp 5]) [_, _] Try.func57 rfl ⟨rfl, rfl, trivial⟩ ?_
        obtain ⟨c, hcm, hcn⟩ := hC.any.1 hc22
        exact ⟨_, _, _, rfl, New.nilvec .., S9.le, .arg h0 (by have := hC.len; omega) hcm hcn⟩
      · skip
        have hall := hC.all hc22
        refine r_skip ?_
        refine r_seq ?_
        refine r_region ?_
        refine l_x rfl (x_fieldAddr rfl Try.runUnderlying24 rfl Try.sizeOf22 (by decide)) ?_
        refine l_x rfl (x_load rfl (ld_blk (S9.blk 0 rfl) Try.isAgg22 rfl)) ?_
        refine l_x rfl (x_len (hA.le S9.le) rfl Try.runUnderlying22) ?_
        refine l_make EI 0 S9 rfl Try.runUnderlying25 Try.sizeOf3 Try.typeInfo3 Try.zeroValue3 rfl rfl rfl rfl (Nat.le_refl _) (by unfold maxLen; omega) (by show _ * 8 ≤ _; omega) ?_
        intro v14 w11 hv15 S12 hl13
        refine l_x rfl (x_as rfl) ?_
        refine l_nil ?_
        refine r_seq ?_
        refine r_seq ?_
        refine r_region ?_
        refine l_x rfl (x_mv rfl) ?_
        refine l_x rfl (x_len (hC.rd.le S12.le) rfl Try.runUnderlying73) ?_
        refine l_x rfl (x_mv rfl) ?_
        refine l_nil ?_
        refine r_block ?_
        refine r_loop (G := Nat) (fun i => ds.length - i) (fun i => [(7, v14), (27, vl), (28, .int .i64 ds.length), (29, .int .i64 i)]) (fun i w' => (i ≤ ds.length) ∧ Own nob w w' [blk b4 [.int .i64 N, va] 24, vec EI v14 (tabL arcs.length (addAll (zs.take i)))]) 0 ⟨rfl, rfl, rfl, rfl, trivial⟩ ⟨Nat.zero_le _, (by rw [List.take_zero, show addAll [] = (fun _ => 0) from rfl, tabL_zero]; exact S12)⟩ ?_
        rintro i ρ w1a ⟨hi, S1a⟩ IHa
        refine r_seq ?_
        refine r_region ?_
        refine l_x rfl (x_lss rfl rfl) ?_
        refine l_nil ?_
        refine r_seq ?_
        refine r_ifd rfl (fun hc30 => ?_) (fun hc30 => ?_)
        · skip
          obtain ⟨⟨dh, dm⟩, hdd⟩ : ∃ d, ds[i]? = some d := ⟨_, List.getElem?_eq_getElem (by omega)⟩
          obtain ⟨c, hcs⟩ : ∃ c, zs[i]? = some c := ⟨_, List.getElem?_eq_getElem (by omega)⟩
          obtain ⟨hE1, hE2⟩ := hC.each i _ _ hdd hcs
          simp only at hE1 hE2
          subst hE2
          have hcc := hall c (List.mem_of_getElem? hcs)
          have hcl := hm c (List.mem_of_getElem? hcs)
          refine r_skip ?_
          refine r_seq ?_
          refine r_block ?_
          refine r_seq ?_
          refine r_region ?_
          refine l_index EC rfl (hC.rd.le S1a.le) rfl rfl Try.runUnderlying73 Try.sizeOf75 (by omega) hdd ?_
          intro b16 o17 hat18 row19
          refine l_x rfl (x_load rfl (ld_row Try.isAgg75 Try.sizeOf75 rfl row19)) ?_
          refine l_alloc S1a rfl Try.zeroValue75 rfl ?_
          intro b23 w20 S21 hl22
          refine l_stores S21 2 rfl rfl rfl rfl (EC.one _) Try.sizeOf75 (by first | exact Nat.le_refl _ | simp) (splice_all rfl) ?_
          intro w24 S25 hk26
          refine l_nil ?_
          refine r_seq ?_
          refine r_region ?_
          refine l_x rfl (x_fieldAddr rfl Try.runUnderlying75 rfl Try.sizeOf25 (by decide)) ?_
          refine l_x rfl (x_load rfl (ld_blk (S25.blk 2 rfl) Try.isAgg25 rfl)) ?_
          refine l_x rfl (x_len (hE1.le S25.le) rfl Try.runUnderlying25) ?_
          refine l_x rfl (x_mv rfl) ?_
          refine l_nil ?_
          refine r_block ?_
          refine r_loop (G := Nat) (fun k => c.1.length - k) (fun k => [(7, v14), (9, .pointer (some ⟨b23, 0, none⟩)), (34, hv dh), (35, .int .i64 c.1.length), (36, .int .i64 k), (27, vl), (28, .int .i64 ds.length), (29, .int .i64 i)]) (fun k w' => (k ≤ c.1.length) ∧ Own nob w w' [blk b4 [.int .i64 N, va] 24, vec EI v14 (tabL arcs.length (add1 c (addAll (zs.take i)) k)), blk b23 [hv dh, .int .i64 c.2] 75]) 0 ⟨rfl, rfl, rfl, rfl, rfl, rfl, rfl, rfl, trivial⟩ ⟨Nat.zero_le _, (by rw [add1_zero]; exact S25)⟩ ?_
          rintro k ρ w1b ⟨hk, S1b⟩ IHb
          refine r_seq ?_
          refine r_region ?_
          refine l_x rfl (x_lss rfl rfl) ?_
          refine l_nil ?_
          refine r_seq ?_
          refine r_ifd rfl (fun hc37 => ?_) (fun hc37 => ?_)
          · skip
            obtain ⟨q, hq⟩ : ∃ q, c.1[k]? = some q := ⟨_, List.getElem?_eq_getElem (by omega)⟩
            have hqr := hcc.ok q (List.mem_of_getElem? hq)
            have hbd := add1_bd (addAll_bd hall i (by omega)) hcc.am k q.toNat
            have ham := hcc.am
            refine r_skip ?_
            refine r_seq ?_
            refine r_block ?_
            refine r_seq ?_
            refine r_region ?_
            refine l_index EI rfl (hE1.le S1b.le) rfl rfl Try.runUnderlying25 Try.sizeOf3 (by omega) hq ?_
            intro b27 o28 hat29 row30
            refine l_x rfl (x_load rfl (ld_cell Try.isAgg3 (row30 0 _ rfl))) ?_
            refine l_x rfl (x_as rfl) ?_
            refine l_nil ?_
            refine r_drawR 8 Try.mixed (by kernel_rfl) ?_
            refine w_x rfl (fun w1 h1 => x_mv rfl) ?_
            refine w_x rfl (fun w1 h1 => x_mv rfl) ?_
            refine w_index EI rfl (vec_rd (S1b.at 1 rfl)) rfl rfl Try.runUnderlying25 Try.sizeOf3 (by omega) (tabL_get (by omega)) ?_
            intro b31 o32 hat33 row34
            refine w_x rfl (fun w1 h1 => x_load rfl (ld_cell Try.isAgg3 ((row34.le h1) 0 _ rfl))) ?_
            refine w_x rfl (fun w1 h1 => x_fieldAddr rfl Try.runUnderlying75 rfl Try.sizeOf3 (by decide)) ?_
            refine w_x rfl (fun w1 h1 => x_load rfl (ld_blk ((S1b.step h1).blk 2 rfl) Try.isAgg3 rfl)) ?_
            refine w_x rfl (fun w1 h1 => x_add rfl rfl (by omega)) ?_
            refine w_index EI rfl (vec_rd (S1b.at 1 rfl)) rfl rfl Try.runUnderlying25 Try.sizeOf3 (by omega) (tabL_get (by omega)) ?_
            intro b35 o36 hat37 row38
            refine w_nil ?_
            intro w39 hl40
            have S41 := S1b.step hl40
            refine l_storevi (f := 0) S41 1 rfl rfl hat37 rfl rfl Try.sizeOf3 (tabL_get (by omega)) (by decide) rfl ?_
            intro w42 S43 hk44
            refine l_nil ?_
            refine r_inBlock ?_
            refine r_region ?_
            refine l_x rfl (x_add rfl rfl (by omega)) ?_
            refine l_x rfl (x_mv rfl) ?_
            refine l_nil ?_
            exact IHb (k + 1) _ _ (by omega) ⟨rfl, rfl, rfl, rfl, rfl, rfl, rfl, rfl, trivial⟩ ⟨by omega, (by have hS := S43; rw [tabL_set, add1_step hcc hq] at hS; exact hS)⟩
          · skip
            have hke : k = c.1.length := by omega
            subst hke
            refine r_exit rfl ?_
            refine r_inBlock ?_
            refine r_region ?_
            refine l_x rfl (x_add rfl rfl (by omega)) ?_
            refine l_x rfl (x_mv rfl) ?_
            refine l_nil ?_
            exact IHa (i + 1) _ _ (by omega) ⟨rfl, rfl, rfl, rfl, trivial⟩ ⟨by omega, (by rw [addAll_take hcs]; exact S1b.take 2)⟩
        · skip
          have hie : i = ds.length := by omega
          subst hie
          have hct : zs.take ds.length = zs := List.take_of_length_le (by omega)
          rw [hct] at S1a
          refine r_exit rfl ?_
          refine r_seq ?_
          refine r_seq ?_
          refine r_region ?_
          refine l_x rfl (x_mv rfl) ?_
          refine l_call [] [] [_, _] rfl rfl Try.call111 rfl (c_ContainsFuncInt _ _ (fun z => decide (1000000 < z)) 112 [] (by rw [tabL_length]; omega) _ (vec_rd (S1a.at 1 rfl)) Try.call112 (fun x hx w1 h1 => c_FromCircles2 x w1)) ?_
          rintro _ w45 ⟨rfl, hl47⟩
          have S46 := S1a.step hl47
          refine l_nil ?_
          refine r_if rfl (fun hc51 => ?_) (fun hc51 => ?_)
          · skip
            refine r_seq ?_
            refine r_region ?_
            refine l_x rfl (x_as rfl) ?_
            refine l_x rfl (x_as rfl) ?_
            refine l_nil ?_
            refine r_ret (rs := [.tmp 4, .tmp 5]) [_, _] Try.func57 rfl ⟨rfl, rfl, trivial⟩ ?_
            obtain ⟨i, hi1, hi2⟩ := any_big.1 hc51
            exact ⟨_, _, _, rfl, New.nilvec .., S46.le, .big h0 (by have := hC.len; omega) hall hi1 hi2⟩
          · skip
            refine r_skip ?_
            refine r_seq ?_
            refine r_region ?_
            refine l_x rfl (x_mv rfl) ?_
            refine l_x rfl (x_as rfl) ?_
            refine l_x rfl (x_as rfl) ?_
            refine l_nil ?_
            refine r_ret (rs := [.tmp 4, .tmp 5]) [_, _] Try.func57 rfl ⟨rfl, rfl, trivial⟩ ?_
            exact ⟨_, _, _, rfl, S46.new 1 rfl, S46.le, .yes h0 (by have := hC.len; omega) hall (any_small hc51)⟩

end Go.Proofs

/-
  Contracts of functions of the program: each by symbolic execution of its text.
-/
namespace Go.Proofs
open Go Go.Vk Go.Vk.Flow

set_option maxHeartbeats 4000000 in
/-- couchant/couchantref06.circle. -/
theorem c_rcircle (N : Int) (va : Value) (arcs : List Arc) (h : Hd) (l : List Int) (m : Int) (hV : Valid N arcs) (hm : l.length ≤ 4611686018427387903) (w : World) (hA : Rd EA w va arcs) (hL : Rd EI w (hv h) l) :
    Cl Try.prog 113 #[.agg #[.int .i64 N, va], .agg #[hv h, .int .i64 m]] w fun v w' => v = .bool (cirB arcs (l, m)) ∧ Le w w' := by
  have hLx := hV.len
  have hNx := hV.max
  have hN1 := hV.pos
  refine fn_of_run (args := [_, _]) 102 Try.func113 rfl rfl rfl fun cs => ?_
  have S := Own.start (X := nob) w
  refine r_seq ?_
  refine r_region ?_
  refine l_box S rfl rfl ?_
  intro b4 w1 S2 hl3
  refine l_box S2 rfl rfl ?_
  intro b8 w5 S6 hl7
  refine l_x rfl (x_as rfl) ?_
  refine l_nil ?_
  refine r_seq ?_
  refine r_seq ?_
  refine r_region ?_
  refine l_x rfl (x_fieldAddr rfl Try.runUnderlying75 rfl Try.sizeOf25 (by decide)) ?_
  refine l_x rfl (x_load rfl (ld_blk (S6.blk 1 rfl) Try.isAgg25 rfl)) ?_
  refine l_x rfl (x_len (hL.le S6.le) rfl Try.runUnderlying25) ?_
  refine l_x rfl (x_lss rfl rfl) ?_
  refine l_x rfl (x_mv rfl) ?_
  refine l_splitd (d := 13) rfl (fun hg13 => ?_) (fun hg13 => ?_)
  · skip
    refine l_pass rfl ?_
    refine l_pass rfl ?_
    refine l_pass rfl ?_
    refine l_x rfl (x_pick_t rfl rfl) ?_
    refine l_x rfl (x_mv rfl) ?_
    refine l_pass rfl ?_
    refine l_pass rfl ?_
    refine l_pass rfl ?_
    refine l_x rfl (x_pick_t rfl rfl) ?_
    refine l_nil ?_
    refine r_true rfl ?_
    refine r_seq ?_
    refine r_region ?_
    refine l_x rfl (x_as rfl) ?_
    refine l_nil ?_
    refine r_ret (rs := [.tmp 4]) [_] Try.func113 rfl ⟨rfl, trivial⟩ ?_
    exact ⟨congrArg Value.bool (no_len (by omega)).symm, S6.le⟩
  · skip
    refine l_x rfl (x_fieldAddr rfl Try.runUnderlying75 rfl Try.sizeOf3 (by decide)) ?_
    refine l_x rfl (x_load rfl (ld_blk (S6.blk 1 rfl) Try.isAgg3 rfl)) ?_
    refine l_x rfl (x_lss rfl rfl) ?_
    refine l_x rfl (x_pick_f rfl rfl) ?_
    refine l_x rfl (x_mv rfl) ?_
    refine l_splitd (d := 18) rfl (fun hg18 => ?_) (fun hg18 => ?_)
    · skip
      refine l_pass rfl ?_
      refine l_pass rfl ?_
      refine l_pass rfl ?_
      refine l_x rfl (x_pick_t rfl rfl) ?_
      refine l_nil ?_
      refine r_true rfl ?_
      refine r_seq ?_
      refine r_region ?_
      refine l_x rfl (x_as rfl) ?_
      refine l_nil ?_
      refine r_ret (rs := [.tmp 4]) [_] Try.func113 rfl ⟨rfl, trivial⟩ ?_
      exact ⟨congrArg Value.bool (no_am (by omega)).symm, S6.le⟩
    · skip
      refine l_x rfl (x_fieldAddr rfl Try.runUnderlying75 rfl Try.sizeOf3 (by decide)) ?_
      refine l_x rfl (x_load rfl (ld_blk (S6.blk 1 rfl) Try.isAgg3 rfl)) ?_
      refine l_x rfl (x_gtr rfl rfl) ?_
      refine l_x rfl (x_pick_f rfl rfl) ?_
      refine l_nil ?_
      refine r_ifd rfl (fun hc22 => ?_) (fun hc22 => ?_)
      · skip
        refine r_seq ?_
        refine r_region ?_
        refine l_x rfl (x_as rfl) ?_
        refine l_nil ?_
        refine r_ret (rs := [.tmp 4]) [_] Try.func113 rfl ⟨rfl, trivial⟩ ?_
        exact ⟨congrArg Value.bool (no_am (by omega)).symm, S6.le⟩
      · skip
        have ham : 1 ≤ m ∧ m ≤ 1000000 := by omega
        refine r_skip ?_
        refine r_seq ?_
        refine r_region ?_
        refine l_x rfl (x_fieldAddr rfl Try.runUnderlying24 rfl Try.sizeOf3 (by decide)) ?_
        refine l_x rfl (x_load rfl (ld_blk (S6.blk 0 rfl) Try.isAgg3 rfl)) ?_
        refine l_make EB false S6 rfl Try.runUnderlying101 Try.sizeOf4 Try.typeInfo4 Try.zeroValue4 rfl rfl (congrArg (Value.int .i64) (Int.toNat_of_nonneg (by omega)).symm) (congrArg (Value.int .i64) (Int.toNat_of_nonneg (by omega)).symm) (Nat.le_refl _) (by unfold maxLen; omega) (by show _ * 1 ≤ _; omega) ?_
        intro v12 w9 hv13 S10 hl11
        refine l_x rfl (x_as rfl) ?_
        refine l_nil ?_
        refine r_seq ?_
        refine r_seq ?_
        refine r_region ?_
        refine l_x rfl (x_as rfl) ?_
        refine l_nil ?_
        refine r_block ?_
        refine r_loop (G := Nat) (fun k => l.length - k) (fun k => [(2, .pointer (some ⟨b4, 0, none⟩)), (3, .pointer (some ⟨b8, 0, none⟩)), (5, v12), (6, .int .i64 k)]) (fun k w' => (k ≤ l.length) ∧ (CirI arcs l (LdB arcs l) k) ∧ Own nob w w' [blk b4 [.int .i64 N, va] 24, blk b8 [hv h, .int .i64 m] 75, vec EB v12 (seenL N arcs l k)]) 0 ⟨rfl, rfl, rfl, rfl, trivial⟩ ⟨Nat.zero_le _, CirI.zero, (by rw [seenL_zero]; exact S10)⟩ ?_
        rintro k ρ w1 ⟨hi, hI, S1⟩ IH
        refine r_seq ?_
        refine r_seq ?_
        refine r_region ?_
        refine l_x rfl (x_mv rfl) ?_
        refine l_x rfl (x_fieldAddr rfl Try.runUnderlying75 rfl Try.sizeOf25 (by decide)) ?_
        refine l_x rfl (x_load rfl (ld_blk (S1.blk 1 rfl) Try.isAgg25 rfl)) ?_
        refine l_x rfl (x_len (hL.le S1.le) rfl Try.runUnderlying25) ?_
        refine l_x rfl (x_lss rfl rfl) ?_
        refine l_nil ?_
        refine r_ifd rfl (fun hc30 => ?_) (fun hc30 => ?_)
        · skip
          obtain ⟨i, hi9⟩ : ∃ i, l[k]? = some i := ⟨_, List.getElem?_eq_getElem (by omega)⟩
          refine r_skip ?_
          refine r_seq ?_
          refine r_block ?_
          refine r_seq ?_
          refine r_seq ?_
          refine r_drawR 17 Try.mixed (by kernel_rfl) ?_
          refine w_x rfl (fun w1 h1 => x_fieldAddr rfl Try.runUnderlying75 rfl Try.sizeOf25 (by decide)) ?_
          refine w_x rfl (fun w1 h1 => x_load rfl (ld_blk ((S1.step h1).blk 1 rfl) Try.isAgg25 rfl)) ?_
          refine w_x rfl (fun w1 h1 => x_mv rfl) ?_
          refine w_index EI rfl (hL.le S1.le) rfl rfl Try.runUnderlying25 Try.sizeOf3 (by omega) hi9 ?_
          intro b14 o15 hat16 row17
          refine w_x rfl (fun w1 h1 => x_load rfl (ld_cell Try.isAgg3 ((row17.le h1) 0 _ rfl))) ?_
          refine w_x rfl (fun w1 h1 => x_lss rfl rfl) ?_
          refine w_x rfl (fun w1 h1 => x_mv rfl) ?_
          refine w_splitd (d := 39) rfl (fun hg39 => ?_) (fun hg39 => ?_)
          · skip
            refine w_pass rfl ?_
            refine w_pass rfl ?_
            refine w_pass rfl ?_
            refine w_pass rfl ?_
            refine w_pass rfl ?_
            refine w_pass rfl ?_
            refine w_pass rfl ?_
            refine w_pass rfl ?_
            refine w_pass rfl ?_
            refine w_x rfl (fun w1 h1 => x_pick_t rfl rfl) ?_
            refine w_nil ?_
            intro w18 hl19
            have S20 := S1.step hl19
            refine l_nil ?_
            refine r_true rfl ?_
            refine r_seq ?_
            refine r_region ?_
            refine l_x rfl (x_as rfl) ?_
            refine l_nil ?_
            refine r_ret (rs := [.tmp 4]) [_] Try.func113 rfl ⟨rfl, trivial⟩ ?_
            exact ⟨congrArg Value.bool (no_ok hi9 (by omega)).symm, S20.le⟩
          · skip
            refine w_x rfl (fun w1 h1 => x_fieldAddr rfl Try.runUnderlying75 rfl Try.sizeOf25 (by decide)) ?_
            refine w_x rfl (fun w1 h1 => x_load rfl (ld_blk ((S1.step h1).blk 1 rfl) Try.isAgg25 rfl)) ?_
            refine w_x rfl (fun w1 h1 => x_mv rfl) ?_
            refine w_index EI rfl (hL.le S1.le) rfl rfl Try.runUnderlying25 Try.sizeOf3 (by omega) hi9 ?_
            intro b21 o22 hat23 row24
            refine w_x rfl (fun w1 h1 => x_load rfl (ld_cell Try.isAgg3 ((row24.le h1) 0 _ rfl))) ?_
            refine w_x rfl (fun w1 h1 => x_fieldAddr rfl Try.runUnderlying24 rfl Try.sizeOf22 (by decide)) ?_
            refine w_x rfl (fun w1 h1 => x_load rfl (ld_blk ((S1.step h1).blk 0 rfl) Try.isAgg22 rfl)) ?_
            refine w_x rfl (fun w1 h1 => x_len (hA.le (S1.step h1).le) rfl Try.runUnderlying22) ?_
            refine w_x rfl (fun w1 h1 => x_geq rfl rfl) ?_
            refine w_x rfl (fun w1 h1 => x_pick_f rfl rfl) ?_
            refine w_nil ?_
            intro w25 hl26
            have S27 := S1.step hl26
            refine l_nil ?_
            refine r_ifd rfl (fun hc49 => ?_) (fun hc49 => ?_)
            · skip
              refine r_seq ?_
              refine r_region ?_
              refine l_x rfl (x_as rfl) ?_
              refine l_nil ?_
              refine r_ret (rs := [.tmp 4]) [_] Try.func113 rfl ⟨rfl, trivial⟩ ?_
              exact ⟨congrArg Value.bool (no_ok hi9 (by omega)).symm, S27.le⟩
            · skip
              have hir : 0 ≤ i ∧ i < arcs.length := by omega
              obtain ⟨a, ha⟩ : ∃ a, arcs[i.toNat]? = some a := ⟨_, List.getElem?_eq_getElem (by omega)⟩
              have hoka := hV.at ha
              refine r_skip ?_
              refine r_seq ?_
              obtain ⟨i2, hi2⟩ : ∃ i2, l[bf l.length k]? = some i2 := ⟨_, List.getElem?_eq_getElem (bf_lt (by omega))⟩
              have hq2 : l[(((k : Int) + (l.length : Int) - 1) % (l.length : Int)).toNat]? = some i2 := by rw [bf_cast (by omega)]; exact hi2
              refine r_drawR 15 Try.mixed (by kernel_rfl) ?_
              refine w_x rfl (fun w1 h1 => x_fieldAddr rfl Try.runUnderlying75 rfl Try.sizeOf25 (by decide)) ?_
              refine w_x rfl (fun w1 h1 => x_load rfl (ld_blk ((S27.step h1).blk 1 rfl) Try.isAgg25 rfl)) ?_
              refine w_x rfl (fun w1 h1 => x_mv rfl) ?_
              refine w_x rfl (fun w1 h1 => x_fieldAddr rfl Try.runUnderlying75 rfl Try.sizeOf25 (by decide)) ?_
              refine w_x rfl (fun w1 h1 => x_load rfl (ld_blk ((S27.step h1).blk 1 rfl) Try.isAgg25 rfl)) ?_
              refine w_x rfl (fun w1 h1 => x_len (hL.le (S27.step h1).le) rfl Try.runUnderlying25) ?_
              refine w_x rfl (fun w1 h1 => x_add rfl rfl (by omega)) ?_
              refine w_x rfl (fun w1 h1 => x_sub rfl rfl (by omega)) ?_
              refine w_x rfl (fun w1 h1 => x_fieldAddr rfl Try.runUnderlying75 rfl Try.sizeOf25 (by decide)) ?_
              refine w_x rfl (fun w1 h1 => x_load rfl (ld_blk ((S27.step h1).blk 1 rfl) Try.isAgg25 rfl)) ?_
              refine w_x rfl (fun w1 h1 => x_len (hL.le (S27.step h1).le) rfl Try.runUnderlying25) ?_
              refine w_x rfl (fun w1 h1 => x_rem rfl rfl (by omega)) ?_
              refine w_index EI rfl (hL.le S27.le) rfl rfl Try.runUnderlying25 Try.sizeOf3 (Int.emod_nonneg _ (by omega)) hq2 ?_
              intro b28 o29 hat30 row31
              refine w_x rfl (fun w1 h1 => x_load rfl (ld_cell Try.isAgg3 ((row31.le h1) 0 _ rfl))) ?_
              refine w_x rfl (fun w1 h1 => x_as rfl) ?_
              refine w_nil ?_
              intro w32 hl33
              have S34 := S27.step hl33
              refine l_nil ?_
              refine r_seq ?_
              refine r_seq ?_
              refine r_region ?_
              refine l_x rfl (x_mv rfl) ?_
              refine l_x rfl (x_lss rfl rfl) ?_
              refine l_x rfl (x_mv rfl) ?_
              refine l_splitd (d := 66) rfl (fun hg66 => ?_) (fun hg66 => ?_)
              · skip
                refine l_pass rfl ?_
                refine l_pass rfl ?_
                refine l_pass rfl ?_
                refine l_pass rfl ?_
                refine l_pass rfl ?_
                refine l_x rfl (x_pick_t rfl rfl) ?_
                refine l_nil ?_
                refine r_true rfl ?_
                refine r_seq ?_
                refine r_region ?_
                refine l_x rfl (x_as rfl) ?_
                refine l_nil ?_
                refine r_ret (rs := [.tmp 4]) [_] Try.func113 rfl ⟨rfl, trivial⟩ ?_
                exact ⟨congrArg Value.bool (no_ok hi2 (by omega)).symm, S34.le⟩
              · skip
                refine l_x rfl (x_mv rfl) ?_
                refine l_x rfl (x_fieldAddr rfl Try.runUnderlying24 rfl Try.sizeOf22 (by decide)) ?_
                refine l_x rfl (x_load rfl (ld_blk (S34.blk 0 rfl) Try.isAgg22 rfl)) ?_
                refine l_x rfl (x_len (hA.le S34.le) rfl Try.runUnderlying22) ?_
                refine l_x rfl (x_geq rfl rfl) ?_
                refine l_x rfl (x_pick_f rfl rfl) ?_
                refine l_nil ?_
                refine r_ifd rfl (fun hc72 => ?_) (fun hc72 => ?_)
                · skip
                  refine r_seq ?_
                  refine r_region ?_
                  refine l_x rfl (x_as rfl) ?_
                  refine l_nil ?_
                  refine r_ret (rs := [.tmp 4]) [_] Try.func113 rfl ⟨rfl, trivial⟩ ?_
                  exact ⟨congrArg Value.bool (no_ok hi2 (by omega)).symm, S34.le⟩
                · skip
                  have hir2 : 0 ≤ i2 ∧ i2 < arcs.length := by omega
                  obtain ⟨b, hb⟩ : ∃ b, arcs[i2.toNat]? = some b := ⟨_, List.getElem?_eq_getElem (by omega)⟩
                  refine r_skip ?_
                  refine r_seq ?_
                  refine r_drawE 11 (yng w32) Try.mixed (by kernel_rfl) ?_
                  intro w35 hl36
                  have S37 := S34.step hl36
                  have hy38 : Keep (yng w32) w32 w35 := .of_le hl36
                  refine e_exact 0 _ (by kernel_rfl) rfl rfl (by kernel_rfl) rfl (ex_x rfl (fun w1 h1 => x_fieldAddr rfl Try.runUnderlying24 rfl Try.sizeOf22 (by decide))) ?_
                  refine e_exact 1 _ (by kernel_rfl) rfl rfl (by kernel_rfl) rfl (ex_x rfl (fun w1 h1 => x_load rfl (ld_blk ((S34.yng (hy38.trans h1)).blk 0 rfl) Try.isAgg22 rfl))) ?_
                  refine e_exact 2 _ (by kernel_rfl) rfl rfl (by kernel_rfl) rfl (ex_x rfl (fun w1 h1 => x_fieldAddr rfl Try.runUnderlying75 rfl Try.sizeOf25 (by decide))) ?_
                  refine e_exact 3 _ (by kernel_rfl) rfl rfl (by kernel_rfl) rfl (ex_x rfl (fun w1 h1 => x_load rfl (ld_blk ((S34.yng (hy38.trans h1)).blk 1 rfl) Try.isAgg25 rfl))) ?_
                  refine e_exact 4 _ (by kernel_rfl) rfl rfl (by kernel_rfl) rfl (ex_x rfl (fun w1 h1 => x_mv rfl)) ?_
                  refine e_index EI 5 (by kernel_rfl) rfl rfl (by kernel_rfl) rfl rfl (hL.le S37.le) rfl rfl Try.runUnderlying25 Try.sizeOf3 (by omega) hi9 ?_
                  intro b39 o40 hat41
                  refine e_exact 6 _ (by kernel_rfl) rfl rfl (by kernel_rfl) rfl (ex_x rfl (fun w1 h1 => x_load rfl (ld_cell Try.isAgg3 ((rd_row (hL.le (S34.yng (hy38.trans h1)).le) hat41 hi9) 0 _ rfl)))) ?_
                  refine e_index EA 7 (by kernel_rfl) rfl rfl (by kernel_rfl) rfl rfl (hA.le S37.le) rfl rfl Try.runUnderlying22 Try.sizeOf39 (by omega) ha ?_
                  intro b42 o43 hat44
                  refine e_exact 8 _ (by kernel_rfl) rfl rfl (by kernel_rfl) rfl (ex_x rfl (fun w1 h1 => x_load rfl (ld_row Try.isAgg39 Try.sizeOf39 rfl (rd_row (hA.le (S34.yng (hy38.trans h1)).le) hat44 ha)))) ?_
                  refine e_next [9] (by kernel_rfl) (by kernel_rfl) ⟨⟨_, _, rfl, rfl, ?_⟩, trivial⟩
                  refine s_allocY S37 rfl Try.zeroValue39 rfl ?_
                  intro b48 w45 S46 hl47 hb49
                  refine ⟨.of_le hl47, ?_⟩
                  have hy50 : Keep (yng w32) w32 w45 := hy38.trans (Keep.of_le hl47)
                  refine e_next [10] (by kernel_rfl) (by kernel_rfl) ⟨⟨_, _, rfl, rfl, ?_⟩, trivial⟩
                  refine s_stores (vs := [_, _, _, _, _, _]) S46 3 rfl rfl rfl rfl (ones_cons rfl (ones_cons rfl (ones_cons rfl (ones_cons rfl (ones_cons rfl (ones_cons rfl ones_nil)))))) Try.sizeOf39 (by first | exact Nat.le_refl _ | simp) (splice_all rfl) ?_
                  intro w51 S52 hk53
                  refine ⟨(yng_blk hy38 hb49 hk53), ?_⟩
                  have hy54 : Keep (yng w32) w32 w51 := hy50.trans ((yng_blk hy38 hb49 hk53))
                  refine e_done (by kernel_rfl) ?_
                  refine l_nil ?_
                  refine r_seq ?_
                  refine r_seq ?_
                  refine r_drawR 16 Try.mixed (by kernel_rfl) ?_
                  refine w_x rfl (fun w1 h1 => x_fieldAddr rfl Try.runUnderlying24 rfl Try.sizeOf22 (by decide)) ?_
                  refine w_x rfl (fun w1 h1 => x_load rfl (ld_blk ((S52.step h1).blk 0 rfl) Try.isAgg22 rfl)) ?_
                  refine w_x rfl (fun w1 h1 => x_mv rfl) ?_
                  refine w_index EA rfl (hA.le S52.le) rfl rfl Try.runUnderlying22 Try.sizeOf39 (by omega) hb ?_
                  intro b55 o56 hat57 row58
                  refine w_x rfl (fun w1 h1 => x_fieldAddr rfl Try.runUnderlying39 rfl Try.sizeOf3 (by decide)) ?_
                  refine w_x rfl (fun w1 h1 => x_load rfl (ld_cell Try.isAgg3 ((row58.le h1) 1 _ rfl))) ?_
                  refine w_x rfl (fun w1 h1 => x_fieldAddr rfl Try.runUnderlying39 rfl Try.sizeOf3 (by decide)) ?_
                  refine w_x rfl (fun w1 h1 => x_load rfl (ld_blk ((S52.step h1).blk 3 rfl) Try.isAgg3 rfl)) ?_
                  refine w_x rfl (fun w1 h1 => x_neq rfl rfl) ?_
                  refine w_x rfl (fun w1 h1 => x_mv rfl) ?_
                  refine w_splitd (d := 91) rfl (fun hg91 => ?_) (fun hg91 => ?_)
                  · skip
                    refine w_pass rfl ?_
                    refine w_pass rfl ?_
                    refine w_pass rfl ?_
                    refine w_pass rfl ?_
                    refine w_pass rfl ?_
                    refine w_x rfl (fun w1 h1 => x_pick_t rfl rfl) ?_
                    refine w_nil ?_
                    intro w59 hl60
                    have S61 := S52.step hl60
                    refine l_nil ?_
                    refine r_true rfl ?_
                    refine r_seq ?_
                    refine r_region ?_
                    refine l_x rfl (x_as rfl) ?_
                    refine l_nil ?_
                    refine r_ret (rs := [.tmp 4]) [_] Try.func113 rfl ⟨rfl, trivial⟩ ?_
                    exact ⟨congrArg Value.bool (no_leadB hi2 hi9 hb ha hg91).symm, S61.le⟩
                  · skip
                    refine w_x rfl (fun w1 h1 => x_mv rfl) ?_
                    refine w_x rfl (fun w1 h1 => x_fieldAddr rfl Try.runUnderlying39 rfl Try.sizeOf3 (by decide)) ?_
                    refine w_x rfl (fun w1 h1 => x_load rfl (ld_blk ((S52.step h1).blk 3 rfl) Try.isAgg3 rfl)) ?_
                    refine w_index EB rfl (vec_rd (S52.at 2 rfl)) rfl rfl Try.runUnderlying101 Try.sizeOf4 (by omega) (seenL_get ⟨by omega, by omega⟩) ?_
                    intro b62 o63 hat64 row65
                    refine w_x rfl (fun w1 h1 => x_load rfl (ld_cell Try.isAgg4 ((row65.le h1) 0 _ rfl))) ?_
                    refine w_x rfl (fun w1 h1 => x_pick_f rfl rfl) ?_
                    refine w_nil ?_
                    intro w66 hl67
                    have S68 := S52.step hl67
                    refine l_nil ?_
                    refine r_if rfl (fun hc97 => ?_) (fun hc97 => ?_)
                    · skip
                      refine r_seq ?_
                      refine r_region ?_
                      refine l_x rfl (x_as rfl) ?_
                      refine l_nil ?_
                      refine r_ret (rs := [.tmp 4]) [_] Try.func113 rfl ⟨rfl, trivial⟩ ?_
                      exact ⟨congrArg Value.bool (no_once hi9 ha hc97).symm, S68.le⟩
                    · skip
                      refine r_skip ?_
                      refine r_region ?_
                      refine l_x rfl (x_mv rfl) ?_
                      refine l_x rfl (x_fieldAddr rfl Try.runUnderlying39 rfl Try.sizeOf3 (by decide)) ?_
                      refine l_x rfl (x_load rfl (ld_blk (S68.blk 3 rfl) Try.isAgg3 rfl)) ?_
                      refine l_index EB rfl (vec_rd (S68.at 2 rfl)) rfl rfl Try.runUnderlying101 Try.sizeOf4 (by omega) (seenL_get ⟨by omega, by omega⟩) ?_
                      intro b69 o70 hat71 row72
                      refine l_storevb (f := 0) S68 2 rfl rfl hat71 rfl rfl Try.sizeOf4 (seenL_get ⟨by omega, by omega⟩) (by decide) rfl ?_
                      intro w73 S74 hk75
                      refine l_nil ?_
                      refine r_inBlock ?_
                      refine r_region ?_
                      refine l_x rfl (x_mv rfl) ?_
                      refine l_x rfl (x_add rfl rfl (by omega)) ?_
                      refine l_x rfl (x_as rfl) ?_
                      refine l_nil ?_
                      exact IH (k + 1) _ _ (by omega) ⟨rfl, rfl, rfl, rfl, trivial⟩ ⟨by omega, hI.step hi9 hir ha (leads_of hi2 hi9 hb ha (Decidable.not_not.1 hg91)) hc97, (by have hS := S74.take 3; rw [seenL_step hi9 ha (by omega)] at hS; exact hS)⟩
        · skip
          have hie : k = l.length := by omega
          subst hie
          refine r_exit rfl ?_
          refine r_seq ?_
          refine r_region ?_
          refine l_x rfl (x_as rfl) ?_
          refine l_nil ?_
          refine r_ret (rs := [.tmp 4]) [_] Try.func113 rfl ⟨rfl, trivial⟩ ?_
          exact ⟨congrArg Value.bool (hI.doneB (by omega) ham).symm, S1.le⟩

theorem all_step {arcs : List Arc} {zs : List Crc} {i : Nat} {c : Crc} (h : ∀ c ∈ zs.take i, Cir arcs c) (hc : zs[i]? = some c) (hk : Cir arcs c) : ∀ c ∈ zs.take (i + 1), Cir arcs c := by
  intro d hd
  rw [List.take_add_one, hc] at hd
  rcases List.mem_append.1 hd with hd | hd
  · exact h d hd
  · simp at hd; subst hd; exact hk
theorem small_step {f : Nat → Int} {i : Nat} (h : ∀ j, j < i → ¬ 1000000 < f j) (hi : ¬ 1000000 < f i) : ∀ j, j < i + 1 → ¬ 1000000 < f j := by
  intro j hj
  rcases Nat.lt_or_ge j i with hlt | hge
  · exact h j hlt
  · have : j = i := by omega
    subst this; exact hi

set_option maxHeartbeats 4000000 in
/-- couchant/couchantref06.FromCircles. -/
theorem c_rFromCircles (N : Int) (va : Value) (arcs : List Arc) (vl : Value) (ds : List (Hd × Int)) (zs : List Crc) (hm : ∀ c ∈ zs, c.1.length ≤ 4611686018427387903) (hmd : ds.length ≤ 4611686018427387903) (w : World) (hA : Rd EA w va arcs) (hC : CsR 3 75 w vl ds zs) :
    Cl Try.prog 58 #[.agg #[.int .i64 N, va], vl] w fun v w' => ∃ s l e, v = .tuple #[s, .int .i64 e] ∧ New w w' (vec EI s l) ∧ Le w w' ∧ FrcR N arcs zs l e := by
  refine fn_of_run (args := [_, _]) 92 Try.func58 rfl rfl rfl fun cs => ?_
  have S := Own.start (X := nob) w
  refine r_seq ?_
  refine r_region ?_
  refine l_box S rfl rfl ?_
  intro b4 w1 S2 hl3
  refine l_x rfl (x_as rfl) ?_
  refine l_x rfl (x_as rfl) ?_
  refine l_nil ?_
  refine r_seq ?_
  refine r_region ?_
  refine l_x rfl (x_load rfl (ld_blks (S2.blk 0 rfl) Try.isAgg24 Try.sizeOf24 rfl rfl)) ?_
  refine l_call [] [] [_] rfl rfl Try.call37 rfl (c_rCheck _ _ _ _ (hA.le S2.le)) ?_
  rintro _ w5 ⟨rfl, hl7⟩
  have S6 := S2.step hl7
  refine l_x rfl (x_as rfl) ?_
  refine l_nil ?_
  refine r_seq ?_
  refine r_seq ?_
  refine r_region ?_
  refine l_x rfl (x_mv rfl) ?_
  refine l_x rfl (x_neq rfl rfl) ?_
  refine l_nil ?_
  refine r_ifd rfl (fun hc15 => ?_) (fun hc15 => ?_)
  · skip
    refine r_seq ?_
    refine r_region ?_
    refine l_x rfl (x_mv rfl) ?_
    refine l_x rfl (x_as rfl) ?_
    refine l_x rfl (x_as rfl) ?_
    refine l_nil ?_
    refine r_ret (rs := [.tmp 4, .tmp 5]) [_, _] Try.func58 rfl ⟨rfl, rfl, trivial⟩ ?_
    exact ⟨_, _, _, rfl, New.nilvec .., S6.le, .bad hc15⟩
  · skip
    have h0 := Decidable.not_not.1 hc15
    have hV := chk_zero.1 h0
    have hLx := hV.len
    refine r_skip ?_
    refine r_seq ?_
    refine r_seq ?_
    refine r_region ?_
    refine l_x rfl (x_mv rfl) ?_
    refine l_x rfl (x_len (hC.rd.le S6.le) rfl Try.runUnderlying73) ?_
    refine l_x rfl (x_gtr rfl rfl) ?_
    refine l_nil ?_
    refine r_ifd rfl (fun hc19 => ?_) (fun hc19 => ?_)
    · skip
      refine r_seq ?_
      refine r_region ?_
      refine l_x rfl (x_as rfl) ?_
      refine l_x rfl (x_as rfl) ?_
      refine l_nil ?_
      refine r_ret (rs := [.tmp 4, .tmp 5]) [_, _] Try.func58 rfl ⟨rfl, rfl, trivial⟩ ?_
      exact ⟨_, _, _, rfl, New.nilvec .., S6.le, .many h0 (by have := hC.len; omega)⟩
    · skip
      have hCl := hC.len
      refine r_skip ?_
      refine r_seq ?_
      refine r_region ?_
      refine l_x rfl (x_fieldAddr rfl Try.runUnderlying24 rfl Try.sizeOf22 (by decide)) ?_
      refine l_x rfl (x_load rfl (ld_blk (S6.blk 0 rfl) Try.isAgg22 rfl)) ?_
      refine l_x rfl (x_len (hA.le S6.le) rfl Try.runUnderlying22) ?_
      refine l_make EI 0 S6 rfl Try.runUnderlying25 Try.sizeOf3 Try.typeInfo3 Try.zeroValue3 rfl rfl rfl rfl (Nat.le_refl _) (by unfold maxLen; omega) (by show _ * 8 ≤ _; omega) ?_
      intro v11 w8 hv12 S9 hl10
      refine l_x rfl (x_as rfl) ?_
      refine l_nil ?_
      refine r_seq ?_
      refine r_seq ?_
      refine r_region ?_
      refine l_x rfl (x_as rfl) ?_
      refine l_nil ?_
      refine r_block ?_
      refine r_loop (G := Nat) (fun i => ds.length - i) (fun i => [(2, .pointer (some ⟨b4, 0, none⟩)), (1, vl), (7, v11), (8, .int .i64 i)]) (fun i w' => (i ≤ ds.length) ∧ (∀ c ∈ zs.take i, Cir arcs c) ∧ Own nob w w' [blk b4 [.int .i64 N, va] 24, vec EI v11 (List.replicate arcs.length 0)]) 0 ⟨rfl, rfl, rfl, rfl, trivial⟩ ⟨Nat.zero_le _, by simp, (S9.take 2)⟩ ?_
      rintro i ρ w1a ⟨hi, hok, S1a⟩ IHa
      refine r_seq ?_
      refine r_seq ?_
      refine r_region ?_
      refine l_x rfl (x_mv rfl) ?_
      refine l_x rfl (x_mv rfl) ?_
      refine l_x rfl (x_len (hC.rd.le S1a.le) rfl Try.runUnderlying73) ?_
      refine l_x rfl (x_lss rfl rfl) ?_
      refine l_nil ?_
      refine r_ifd rfl (fun hc27 => ?_) (fun hc27 => ?_)
      · skip
        obtain ⟨⟨dh, dm⟩, hdd⟩ : ∃ d, ds[i]? = some d := ⟨_, List.getElem?_eq_getElem (by omega)⟩
        obtain ⟨c, hcs⟩ : ∃ c, zs[i]? = some c := ⟨_, List.getElem?_eq_getElem (by omega)⟩
        obtain ⟨hE1, hE2⟩ := hC.each i _ _ hdd hcs
        simp only at hE1 hE2
        subst hE2
        have hcl := hm c (List.mem_of_getElem? hcs)
        refine r_skip ?_
        refine r_seq ?_
        refine r_block ?_
        refine r_seq ?_
        refine r_drawR 7 Try.mixed (by kernel_rfl) ?_
        refine w_x rfl (fun w1 h1 => x_load rfl (ld_blks ((S1a.step h1).blk 0 rfl) Try.isAgg24 Try.sizeOf24 rfl rfl)) ?_
        refine w_x rfl (fun w1 h1 => x_mv rfl) ?_
        refine w_x rfl (fun w1 h1 => x_mv rfl) ?_
        refine w_index EC rfl (hC.rd.le S1a.le) rfl rfl Try.runUnderlying73 Try.sizeOf75 (by omega) hdd ?_
        intro b13 o14 hat15 row16
        refine w_x rfl (fun w1 h1 => x_load rfl (ld_row Try.isAgg75 Try.sizeOf75 rfl (row16.le h1))) ?_
        refine wd_call [] [] [_, _] rfl rfl Try.call113 rfl (fun w1 h1 => c_rcircle _ _ _ _ _ _ hV hcl _ (hA.le (S1a.step h1).le) (hE1.le (S1a.step h1).le)) ?_
        refine w_x rfl (fun w1 h1 => x_not rfl) ?_
        refine w_nil ?_
        intro w17 hl18
        have S19 := S1a.step hl18
        refine l_nil ?_
        refine r_if rfl (fun hc36 => ?_) (fun hc36 => ?_)
        · skip
          refine r_seq ?_
          refine r_region ?_
          refine l_x rfl (x_as rfl) ?_
          refine l_x rfl (x_as rfl) ?_
          refine l_nil ?_
          refine r_ret (rs := [.tmp 4, .tmp 5]) [_, _] Try.func58 rfl ⟨rfl, rfl, trivial⟩ ?_
          exact ⟨_, _, _, rfl, New.nilvec .., S19.le, .arg h0 (by have := hC.len; omega) (List.mem_of_getElem? hcs) (fun hh => by rw [cirB_iff.2 hh] at hc36; cases hc36)⟩
        · skip
          have hcc : Cir arcs c := cirB_iff.1 (by simpa using hc36)
          refine r_skip ?_
          refine r_inBlock ?_
          refine r_region ?_
          refine l_x rfl (x_mv rfl) ?_
          refine l_x rfl (x_add rfl rfl (by omega)) ?_
          refine l_x rfl (x_as rfl) ?_
          refine l_nil ?_
          exact IHa (i + 1) _ _ (by omega) ⟨rfl, rfl, rfl, rfl, trivial⟩ ⟨by omega, all_step hok hcs hcc, (S19.take 2)⟩
      · skip
        have hie : i = ds.length := by omega
        subst hie
        have hct : zs.take ds.length = zs := List.take_of_length_le (by omega)
        rw [hct] at hok
        have hall := hok
        refine r_exit rfl ?_
        refine r_seq ?_
        refine r_seq ?_
        refine r_region ?_
        refine l_x rfl (x_as rfl) ?_
        refine l_nil ?_
        refine r_block ?_
        refine r_loop (G := Nat) (fun i => ds.length - i) (fun i => [(1, vl), (7, v11), (9, .int .i64 i)]) (fun i w' => (i ≤ ds.length) ∧ Own nob w w' [blk b4 [.int .i64 N, va] 24, vec EI v11 (tabL arcs.length (addAll (zs.take i)))]) 0 ⟨rfl, rfl, rfl, trivial⟩ ⟨Nat.zero_le _, (by rw [List.take_zero, show addAll [] = (fun _ => 0) from rfl, tabL_zero]; exact S1a)⟩ ?_
        rintro i ρ w1b ⟨hi, S1b⟩ IHb
        refine r_seq ?_
        refine r_seq ?_
        refine r_region ?_
        refine l_x rfl (x_mv rfl) ?_
        refine l_x rfl (x_mv rfl) ?_
        refine l_x rfl (x_len (hC.rd.le S1b.le) rfl Try.runUnderlying73) ?_
        refine l_x rfl (x_lss rfl rfl) ?_
        refine l_nil ?_
        refine r_ifd rfl (fun hc40 => ?_) (fun hc40 => ?_)
        · skip
          obtain ⟨⟨dh, dm⟩, hdd⟩ : ∃ d, ds[i]? = some d := ⟨_, List.getElem?_eq_getElem (by omega)⟩
          obtain ⟨c, hcs⟩ : ∃ c, zs[i]? = some c := ⟨_, List.getElem?_eq_getElem (by omega)⟩
          obtain ⟨hE1, hE2⟩ := hC.each i _ _ hdd hcs
          simp only at hE1 hE2
          subst hE2
          have hcc := hall c (List.mem_of_getElem? hcs)
          have hcl := hm c (List.mem_of_getElem? hcs)
          refine r_skip ?_
          refine r_seq ?_
          refine r_block ?_
          refine r_seq ?_
          refine r_region ?_
          refine l_x rfl (x_as rfl) ?_
          refine l_nil ?_
          refine r_block ?_
          refine r_loop (G := Nat) (fun k => c.1.length - k) (fun k => [(1, vl), (7, v11), (9, .int .i64 i), (10, .int .i64 k)]) (fun k w' => (k ≤ c.1.length) ∧ Own nob w w' [blk b4 [.int .i64 N, va] 24, vec EI v11 (tabL arcs.length (add1 c (addAll (zs.take i)) k))]) 0 ⟨rfl, rfl, rfl, rfl, trivial⟩ ⟨Nat.zero_le _, (by rw [add1_zero]; exact S1b)⟩ ?_
          rintro k ρ w1c ⟨hk, S1c⟩ IHc
          refine r_seq ?_
          refine r_seq ?_
          refine r_region ?_
          refine l_x rfl (x_mv rfl) ?_
          refine l_x rfl (x_mv rfl) ?_
          refine l_x rfl (x_mv rfl) ?_
          refine l_index EC rfl (hC.rd.le S1c.le) rfl rfl Try.runUnderlying73 Try.sizeOf75 (by omega) hdd ?_
          intro b20 o21 hat22 row23
          refine l_x rfl (x_fieldAddr rfl Try.runUnderlying75 rfl Try.sizeOf25 (by decide)) ?_
          refine l_x rfl (x_load rfl (ld_cell Try.isAgg25 (row23 0 _ rfl))) ?_
          refine l_x rfl (x_len (hE1.le S1c.le) rfl Try.runUnderlying25) ?_
          refine l_x rfl (x_lss rfl rfl) ?_
          refine l_nil ?_
          refine r_ifd rfl (fun hc50 => ?_) (fun hc50 => ?_)
          · skip
            obtain ⟨q, hq⟩ : ∃ q, c.1[k]? = some q := ⟨_, List.getElem?_eq_getElem (by omega)⟩
            have hqr := hcc.ok q (List.mem_of_getElem? hq)
            have hbd := add1_bd (addAll_bd hall i (by omega)) hcc.am k q.toNat
            have ham := hcc.am
            refine r_skip ?_
            refine r_seq ?_
            refine r_block ?_
            refine r_drawR 27 Try.mixed (by kernel_rfl) ?_
            refine w_x rfl (fun w1 h1 => x_mv rfl) ?_
            refine w_x rfl (fun w1 h1 => x_mv rfl) ?_
            refine w_x rfl (fun w1 h1 => x_mv rfl) ?_
            refine w_index EC rfl (hC.rd.le S1c.le) rfl rfl Try.runUnderlying73 Try.sizeOf75 (by omega) hdd ?_
            intro b24 o25 hat26 row27
            refine w_x rfl (fun w1 h1 => x_fieldAddr rfl Try.runUnderlying75 rfl Try.sizeOf25 (by decide)) ?_
            refine w_x rfl (fun w1 h1 => x_load rfl (ld_cell Try.isAgg25 ((row27.le h1) 0 _ rfl))) ?_
            refine w_x rfl (fun w1 h1 => x_mv rfl) ?_
            refine w_index EI rfl (hE1.le S1c.le) rfl rfl Try.runUnderlying25 Try.sizeOf3 (by omega) hq ?_
            intro b28 o29 hat30 row31
            refine w_x rfl (fun w1 h1 => x_load rfl (ld_cell Try.isAgg3 ((row31.le h1) 0 _ rfl))) ?_
            refine w_x rfl (fun w1 h1 => x_mv rfl) ?_
            refine w_x rfl (fun w1 h1 => x_mv rfl) ?_
            refine w_x rfl (fun w1 h1 => x_mv rfl) ?_
            refine w_index EC rfl (hC.rd.le S1c.le) rfl rfl Try.runUnderlying73 Try.sizeOf75 (by omega) hdd ?_
            intro b32 o33 hat34 row35
            refine w_x rfl (fun w1 h1 => x_fieldAddr rfl Try.runUnderlying75 rfl Try.sizeOf25 (by decide)) ?_
            refine w_x rfl (fun w1 h1 => x_load rfl (ld_cell Try.isAgg25 ((row35.le h1) 0 _ rfl))) ?_
            refine w_x rfl (fun w1 h1 => x_mv rfl) ?_
            refine w_index EI rfl (hE1.le S1c.le) rfl rfl Try.runUnderlying25 Try.sizeOf3 (by omega) hq ?_
            intro b36 o37 hat38 row39
            refine w_x rfl (fun w1 h1 => x_load rfl (ld_cell Try.isAgg3 ((row39.le h1) 0 _ rfl))) ?_
            refine w_index EI rfl (vec_rd (S1c.at 1 rfl)) rfl rfl Try.runUnderlying25 Try.sizeOf3 (by omega) (tabL_get (by omega)) ?_
            intro b40 o41 hat42 row43
            refine w_x rfl (fun w1 h1 => x_load rfl (ld_cell Try.isAgg3 ((row43.le h1) 0 _ rfl))) ?_
            refine w_x rfl (fun w1 h1 => x_mv rfl) ?_
            refine w_x rfl (fun w1 h1 => x_mv rfl) ?_
            refine w_index EC rfl (hC.rd.le S1c.le) rfl rfl Try.runUnderlying73 Try.sizeOf75 (by omega) hdd ?_
            intro b44 o45 hat46 row47
            refine w_x rfl (fun w1 h1 => x_fieldAddr rfl Try.runUnderlying75 rfl Try.sizeOf3 (by decide)) ?_
            refine w_x rfl (fun w1 h1 => x_load rfl (ld_cell Try.isAgg3 ((row47.le h1) 1 _ rfl))) ?_
            refine w_x rfl (fun w1 h1 => x_add rfl rfl (by omega)) ?_
            refine w_index EI rfl (vec_rd (S1c.at 1 rfl)) rfl rfl Try.runUnderlying25 Try.sizeOf3 (by omega) (tabL_get (by omega)) ?_
            intro b48 o49 hat50 row51
            refine w_nil ?_
            intro w52 hl53
            have S54 := S1c.step hl53
            refine l_storevi (f := 0) S54 1 rfl rfl hat50 rfl rfl Try.sizeOf3 (tabL_get (by omega)) (by decide) rfl ?_
            intro w55 S56 hk57
            refine l_nil ?_
            refine r_inBlock ?_
            refine r_region ?_
            refine l_x rfl (x_mv rfl) ?_
            refine l_x rfl (x_add rfl rfl (by omega)) ?_
            refine l_x rfl (x_as rfl) ?_
            refine l_nil ?_
            exact IHc (k + 1) _ _ (by omega) ⟨rfl, rfl, rfl, rfl, trivial⟩ ⟨by omega, (by have hS := S56; rw [tabL_set, add1_step hcc hq] at hS; exact hS)⟩
          · skip
            have hke : k = c.1.length := by omega
            subst hke
            refine r_exit rfl ?_
            refine r_inBlock ?_
            refine r_region ?_
            refine l_x rfl (x_mv rfl) ?_
            refine l_x rfl (x_add rfl rfl (by omega)) ?_
            refine l_x rfl (x_as rfl) ?_
            refine l_nil ?_
            exact IHb (i + 1) _ _ (by omega) ⟨rfl, rfl, rfl, trivial⟩ ⟨by omega, (by rw [addAll_take hcs]; exact S1c.take 2)⟩
        · skip
          have hie : i = ds.length := by omega
          subst hie
          have hct : zs.take ds.length = zs := List.take_of_length_le (by omega)
          rw [hct] at S1b
          refine r_exit rfl ?_
          refine r_seq ?_
          refine r_seq ?_
          refine r_region ?_
          refine l_x rfl (x_as rfl) ?_
          refine l_nil ?_
          refine r_block ?_
          refine r_loop (G := Nat) (fun i => arcs.length - i) (fun i => [(7, v11), (11, .int .i64 i)]) (fun i w' => (i ≤ arcs.length) ∧ (∀ j, j < i → ¬ 1000000 < addAll zs j) ∧ Own nob w w' [blk b4 [.int .i64 N, va] 24, vec EI v11 (tabL arcs.length (addAll zs))]) 0 ⟨rfl, rfl, trivial⟩ ⟨Nat.zero_le _, fun j h => absurd h (Nat.not_lt_zero j), S1b⟩ ?_
          rintro i ρ w1d ⟨hi, hsm, S1d⟩ IHd
          refine r_seq ?_
          refine r_seq ?_
          refine r_region ?_
          refine l_x rfl (x_mv rfl) ?_
          refine l_x rfl (x_mv rfl) ?_
          refine l_x rfl (x_len (vec_rd (S1d.at 1 rfl)) rfl Try.runUnderlying25) ?_
          refine l_x rfl (x_lss rfl rfl) ?_
          refine l_nil ?_
          refine r_ifd rfl (fun hc83 => ?_) (fun hc83 => ?_)
          · skip
            have htl := tabL_length arcs.length (addAll zs)
            have hil : i < arcs.length := by omega
            refine r_skip ?_
            refine r_seq ?_
            refine r_block ?_
            refine r_seq ?_
            refine r_region ?_
            refine l_x rfl (x_mv rfl) ?_
            refine l_x rfl (x_mv rfl) ?_
            refine l_index EI rfl (vec_rd (S1d.at 1 rfl)) rfl rfl Try.runUnderlying25 Try.sizeOf3 (by omega) (tabL_get (by omega)) ?_
            intro b58 o59 hat60 row61
            refine l_x rfl (x_load rfl (ld_cell Try.isAgg3 (row61 0 _ rfl))) ?_
            refine l_x rfl (x_gtr rfl rfl) ?_
            refine l_nil ?_
            refine r_ifd rfl (fun hc90 => ?_) (fun hc90 => ?_)
            · skip
              refine r_seq ?_
              refine r_region ?_
              refine l_x rfl (x_as rfl) ?_
              refine l_x rfl (x_as rfl) ?_
              refine l_nil ?_
              refine r_ret (rs := [.tmp 4, .tmp 5]) [_, _] Try.func58 rfl ⟨rfl, rfl, trivial⟩ ?_
              exact ⟨_, _, _, rfl, New.nilvec .., S1d.le, .big h0 (by have := hC.len; omega) hall (by omega : i < arcs.length) hc90⟩
            · skip
              refine r_skip ?_
              refine r_inBlock ?_
              refine r_region ?_
              refine l_x rfl (x_mv rfl) ?_
              refine l_x rfl (x_add rfl rfl (by omega)) ?_
              refine l_x rfl (x_as rfl) ?_
              refine l_nil ?_
              exact IHd (i + 1) _ _ (by omega) ⟨rfl, rfl, trivial⟩ ⟨by omega, small_step hsm hc90, S1d⟩
          · skip
            have htl := tabL_length arcs.length (addAll zs)
            have hie : i = arcs.length := by omega
            subst hie
            refine r_exit rfl ?_
            refine r_seq ?_
            refine r_region ?_
            refine l_x rfl (x_mv rfl) ?_
            refine l_x rfl (x_as rfl) ?_
            refine l_x rfl (x_as rfl) ?_
            refine l_nil ?_
            refine r_ret (rs := [.tmp 4, .tmp 5]) [_, _] Try.func58 rfl ⟨rfl, rfl, trivial⟩ ?_
            exact ⟨_, _, _, rfl, S1d.new 1 rfl, S1d.le, .yes h0 (by have := hC.len; omega) hall hsm⟩

end Go.Proofs

/-
  What the rows need: how lists of circles are opened.
-/
namespace Go.Proofs
open Go Go.Vk Go.Vk.Flow

open Go.ChangeShapes Go.WideShapes Go.RowKit Go.Joins
theorem cellsLI : Try.prog.cellsOf 25 = 1 := by kernel_rfl
theorem cellsC : Try.prog.cellsOf 75 = 2 := by kernel_rfl
section
variable {H : Type} {enc : TypeId × Value → H} {W : World} {base : Nat} {sp : Nat → Bool} {held : Bool} {r : Reach} {b0 : Nat}
set_option maxRecDepth 100000 in
theorem openCirs {v : Value} {d : DataW H} {p : List MemPlace} (hok : Value.okWide Try.prog W r b0 73 v) (h : DataW.Trod enc Try.prog W base sp held 73 v d p) : ∃ ds zs, CsR 3 75 W v ds zs ∧ ds.length ≤ maxLen := by
  obtain ⟨a, len, cap, rfl⟩ := okWide_slice Try.underlying73 hok
  obtain ⟨fuel, hf⟩ := h
  obtain ⟨ds, h1, h2, h3⟩ := rd_of2 EC (fun a => ∃ l, Rd EI W (hv a.1) l ∧ l.length ≤ maxLen) Try.underlying73 cellsC (fun fuel cs y hl hy => dec_cir Try.underlying75 ⟨rfl, rfl⟩ ⟨rfl, rfl⟩ Try.underlying25 Try.underlying3 cellsLI cellsI fuel cs y hl hy) hf
  obtain ⟨zs, h4, _⟩ := cs_of h1 h3
  exact ⟨ds, zs, h4, h2⟩
end

end Go.Proofs
