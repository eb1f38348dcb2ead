/-
  Contracts of functions of the program: each by symbolic execution of its text.
-/
import Derived.Test.YtddapgjjndbejaaF15
import Derived.Test.YtddapgjjndbejaaVkFlowEdit
namespace Go.Proofs
open Go Go.Vk Go.Vk.Flow

/-- couchant/flow.copied[couchant/api.Arc]. -/
theorem c_copiedA (vl : Value) (l : List Arc) (hm : l.length ≤ 100000) (w : World) (Hl : Rd EA w vl l) :
    Cl Try.prog 65 #[vl] w fun v w' => New w w' (vec EA v l) ∧ Le w w' := by
  refine fn_of_run (args := [_]) 6 Try.func65 rfl rfl rfl fun cs => ?_
  have S := Own.start (X := nob) w
  refine r_seq ?_
  refine r_region ?_
  refine l_x rfl (x_as rfl) ?_
  refine l_nil ?_
  refine r_seq ?_
  refine r_region ?_
  refine l_buildSlice EA [] S rfl Try.runUnderlying22 Try.sizeOf39 Try.zeroValue39 rfl trivial (Nat.le_of_ble_eq_true rfl) ?_
  intro v4 w1 S2 hl3
  refine l_x rfl (x_mv rfl) ?_
  refine l_append EA S2 0 rfl rfl rfl rfl (Hl.le S2.le) Try.underlying22 info39 rfl rfl rfl (by unfold maxLen; rw [List.length_nil]; omega) (by show _ * 48 ≤ _; rw [List.length_nil]; omega) ?_
  intro v8 w5 S6 hk7 hv9
  refine l_x rfl (x_as rfl) ?_
  refine l_nil ?_
  refine r_ret (rs := [.tmp 2]) [_] Try.func65 rfl ⟨rfl, trivial⟩ ?_
  exact ⟨by have hS := S6; rw [List.nil_append] at hS; exact hS.new 0 rfl, S6.le⟩

/-- couchant/flow.copied[int]. -/
theorem c_copiedI (vl : Value) (l : List Int) (hm : l.length ≤ 100000) (w : World) (Hl : Rd EI w vl l) :
    Cl Try.prog 115 #[vl] w fun v w' => New w w' (vec EI v l) ∧ Le w w' := by
  refine fn_of_run (args := [_]) 6 Try.func115 rfl rfl rfl fun cs => ?_
  have S := Own.start (X := nob) w
  refine r_seq ?_
  refine r_region ?_
  refine l_x rfl (x_as rfl) ?_
  refine l_nil ?_
  refine r_seq ?_
  refine r_region ?_
  refine l_buildSlice EI [] S rfl Try.runUnderlying25 Try.sizeOf3 Try.zeroValue3 rfl trivial (Nat.le_of_ble_eq_true rfl) ?_
  intro v4 w1 S2 hl3
  refine l_x rfl (x_mv rfl) ?_
  refine l_append EI S2 0 rfl rfl rfl rfl (Hl.le S2.le) Try.underlying25 info3 rfl rfl rfl (by unfold maxLen; rw [List.length_nil]; omega) (by show _ * 8 ≤ _; rw [List.length_nil]; omega) ?_
  intro v8 w5 S6 hk7 hv9
  refine l_x rfl (x_as rfl) ?_
  refine l_nil ?_
  refine r_ret (rs := [.tmp 2]) [_] Try.func115 rfl ⟨rfl, trivial⟩ ?_
  exact ⟨by have hS := S6; rw [List.nil_append] at hS; exact hS.new 0 rfl, S6.le⟩

/-- couchant/flow.Narrow$1. -/
theorem c_Narrow1 (N : Int) (va : Value) (arcs : List Arc) (i : Int) (lo : Int) (hi : Int) (r : Int) (b0 b1 b2 b3 b4 : Nat) (hV : Valid N arcs) (w : World) (h0 : Blk w b0 [.int .i64 i] 3) (h1 : Blk w b1 [.int .i64 N, va] 24) (h2 : Blk w b2 [.int .i64 lo] 3) (h3 : Blk w b3 [.int .i64 hi] 3) (h4 : Blk w b4 [.int .i64 r] 3) (hA : Rd EA w va arcs) :
    Cl Try.prog 63 #[.pointer (some ⟨b0, 0, none⟩), .pointer (some ⟨b1, 0, none⟩), .pointer (some ⟨b2, 0, none⟩), .pointer (some ⟨b3, 0, none⟩), .pointer (some ⟨b4, 0, none⟩)] w fun v w' => v = .bool (inb arcs i && rg lo 1000000 && rg hi 1000000 && rg r 1000000) ∧ Le w w' := by
  have hLx := hV.len
  refine fn_of_run (args := [_, _, _, _, _]) 24 Try.func63 rfl rfl rfl fun cs => ?_
  have S := Own.start (X := nob) w
  refine r_seq ?_
  refine r_region ?_
  refine l_x rfl (x_as rfl) ?_
  refine l_nil ?_
  refine r_seq ?_
  refine r_region ?_
  refine l_x rfl (x_load rfl (ld_blk (h0.keep S.le id) Try.isAgg3 rfl)) ?_
  refine l_x rfl (x_fieldAddr rfl Try.runUnderlying24 rfl Try.sizeOf22 (by decide)) ?_
  refine l_x rfl (x_load rfl (ld_blk (h1.keep S.le id) Try.isAgg22 rfl)) ?_
  refine l_x rfl (x_len (hA.le S.le) rfl Try.runUnderlying22) ?_
  refine l_x rfl (x_sub rfl rfl (by omega)) ?_
  refine l_call [] [] [_, _, _] rfl rfl Try.call64 rfl (c_in _ _ _ _) ?_
  rintro _ w1 ⟨rfl, hl3⟩
  have S2 := S.step hl3
  refine l_x rfl (x_mv rfl) ?_
  refine l_splitd (d := 12) rfl (fun hg12 => ?_) (fun hg12 => ?_)
  · skip
    refine l_x rfl (x_load rfl (ld_blk (h2.keep S2.le id) Try.isAgg3 rfl)) ?_
    refine l_call [] [] [_, _, _] rfl rfl Try.call64 rfl (c_in _ _ _ _) ?_
    rintro _ w4 ⟨rfl, hl6⟩
    have S5 := S2.step hl6
    refine l_x rfl (x_pick_t rfl rfl) ?_
    refine l_x rfl (x_mv rfl) ?_
    refine l_splitd (d := 16) rfl (fun hg16 => ?_) (fun hg16 => ?_)
    · skip
      refine l_x rfl (x_load rfl (ld_blk (h3.keep S5.le id) Try.isAgg3 rfl)) ?_
      refine l_call [] [] [_, _, _] rfl rfl Try.call64 rfl (c_in _ _ _ _) ?_
      rintro _ w7 ⟨rfl, hl9⟩
      have S8 := S5.step hl9
      refine l_x rfl (x_pick_t rfl rfl) ?_
      refine l_x rfl (x_mv rfl) ?_
      refine l_splitd (d := 20) rfl (fun hg20 => ?_) (fun hg20 => ?_)
      · skip
        refine l_x rfl (x_load rfl (ld_blk (h4.keep S8.le id) Try.isAgg3 rfl)) ?_
        refine l_call [] [] [_, _, _] rfl rfl Try.call64 rfl (c_in _ _ _ _) ?_
        rintro _ w10 ⟨rfl, hl12⟩
        have S11 := S8.step hl12
        refine l_x rfl (x_pick_t rfl rfl) ?_
        refine l_x rfl (x_as rfl) ?_
        refine l_nil ?_
        refine r_ret (rs := [.tmp 5]) [_] Try.func63 rfl ⟨rfl, trivial⟩ ?_
        exact ⟨congrArg Value.bool (Bool.eq_iff_iff.2 (by simp [inb, rg]; try omega)), S11.le⟩
      · skip
        refine l_pass rfl ?_
        refine l_pass rfl ?_
        refine l_x rfl (x_pick_f rfl rfl) ?_
        refine l_x rfl (x_as rfl) ?_
        refine l_nil ?_
        refine r_ret (rs := [.tmp 5]) [_] Try.func63 rfl ⟨rfl, trivial⟩ ?_
        exact ⟨congrArg Value.bool (Bool.eq_iff_iff.2 (by simp [inb, rg]; try omega)), S8.le⟩
    · skip
      refine l_pass rfl ?_
      refine l_pass rfl ?_
      refine l_x rfl (x_pick_f rfl rfl) ?_
      refine l_x rfl (x_mv rfl) ?_
      refine l_pass rfl ?_
      refine l_pass rfl ?_
      refine l_x rfl (x_pick_f rfl rfl) ?_
      refine l_x rfl (x_as rfl) ?_
      refine l_nil ?_
      refine r_ret (rs := [.tmp 5]) [_] Try.func63 rfl ⟨rfl, trivial⟩ ?_
      exact ⟨congrArg Value.bool (Bool.eq_iff_iff.2 (by simp [inb, rg]; try omega)), S5.le⟩
  · skip
    refine l_pass rfl ?_
    refine l_pass rfl ?_
    refine l_x rfl (x_pick_f rfl rfl) ?_
    refine l_x rfl (x_mv rfl) ?_
    refine l_pass rfl ?_
    refine l_pass rfl ?_
    refine l_x rfl (x_pick_f rfl rfl) ?_
    refine l_x rfl (x_mv rfl) ?_
    refine l_pass rfl ?_
    refine l_pass rfl ?_
    refine l_x rfl (x_pick_f rfl rfl) ?_
    refine l_x rfl (x_as rfl) ?_
    refine l_nil ?_
    refine r_ret (rs := [.tmp 5]) [_] Try.func63 rfl ⟨rfl, trivial⟩ ?_
    exact ⟨congrArg Value.bool (Bool.eq_iff_iff.2 (by simp [inb, rg]; try omega)), S2.le⟩

set_option maxHeartbeats 4000000 in
/-- couchant/flow.Narrow. -/
theorem c_Narrow (N : Int) (va : Value) (arcs : List Arc) (i lo hi r : Int) (w : World) (hA : Rd EA w va arcs) :
    Cl Try.prog 20 #[.agg #[.int .i64 N, va], .int .i64 i, .int .i64 lo, .int .i64 hi, .int .i64 r] w fun v w' => ∃ vh, v = .tuple #[.agg #[.int .i64 (if narE N arcs i lo hi r = 0 then N else 0), vh], .int .i64 (narE N arcs i lo hi r)] ∧ New w w' (vec EA vh (if narE N arcs i lo hi r = 0 then nar arcs i.toNat lo hi r else [])) ∧ Le w w' := by
  refine fn_of_run (args := [_, _, _, _, _]) 61 Try.func20 rfl rfl rfl fun cs => ?_
  have S := Own.start (X := nob) w
  refine r_seq ?_
  refine r_region ?_
  refine l_box S rfl rfl ?_
  intro b4 w1 S2 hl3
  refine l_box S2 rfl rfl ?_
  intro b8 w5 S6 hl7
  refine l_box S6 rfl rfl ?_
  intro b12 w9 S10 hl11
  refine l_box S10 rfl rfl ?_
  intro b16 w13 S14 hl15
  refine l_box S14 rfl rfl ?_
  intro b20 w17 S18 hl19
  refine l_alloc S18 rfl Try.zeroValue24 rfl ?_
  intro b24 w21 S22 hl23
  refine l_x rfl (x_as rfl) ?_
  refine l_nil ?_
  refine r_seq ?_
  refine r_seq ?_
  refine r_region ?_
  refine l_x rfl (x_load rfl (ld_blks (S22.blk 0 rfl) Try.isAgg24 Try.sizeOf24 rfl rfl)) ?_
  refine l_x rfl (x_func rfl rfl) ?_
  refine l_call [] [] [_, _] rfl rfl Try.call62 rfl (c_asked N va arcs (inb arcs i && rg lo 1000000 && rg hi 1000000 && rg r 1000000) 63 [_, _, _, _, _] _ (hA.le S22.le) Try.call63 (fun hv w1 h1 => c_Narrow1 N va arcs i lo hi r _ _ _ _ _ (chk_zero.1 hv) w1 ((S22.blk 1 rfl).keep h1 id) ((S22.blk 0 rfl).keep h1 id) ((S22.blk 2 rfl).keep h1 id) ((S22.blk 3 rfl).keep h1 id) ((S22.blk 4 rfl).keep h1 id) (hA.le (S22.le.trans h1)))) ?_
  rintro _ w25 ⟨rfl, hl27⟩
  have S26 := S22.step hl27
  refine l_x rfl (x_as rfl) ?_
  refine l_nil ?_
  refine r_seq ?_
  refine r_region ?_
  refine l_x rfl (x_mv rfl) ?_
  refine l_x rfl (x_neq rfl rfl) ?_
  refine l_nil ?_
  refine r_ifd rfl (fun hc19 => ?_) (fun hc19 => ?_)
  · skip
    change ¬ narE N arcs i lo hi r = 0 at hc19
    refine r_seq ?_
    refine r_region ?_
    refine l_x rfl (x_buildS (out := [_, _]) (ss := [1, 1]) Try.zeroValue24 rfl Try.runUnderlying24 ⟨Try.sizeOf3, Try.sizeOf22, trivial⟩ fill_nil) ?_
    refine l_x rfl (x_mv rfl) ?_
    refine l_stores (vs := [_, _]) S26 5 rfl rfl rfl rfl (ones_cons rfl (ones_cons rfl ones_nil)) Try.sizeOf24 (by first | exact Nat.le_refl _ | simp) (splice_all rfl) ?_
    intro w28 S29 hk30
    refine l_x rfl (x_as rfl) ?_
    refine l_nil ?_
    refine r_ret (rs := [.cell 10 24, .tmp 11]) [_, _] Try.func20 rfl ⟨⟨_, rfl, (ld_blks (S29.blk 5 rfl) Try.isAgg24 Try.sizeOf24 rfl rfl)⟩, rfl, trivial⟩ ?_
    exact ⟨.slice none 0 0, by rw [if_neg hc19]; rfl, by rw [if_neg hc19]; exact New.nilvec .., S29.le⟩
  · skip
    have h0 : narE N arcs i lo hi r = 0 := Decidable.not_not.1 hc19
    obtain ⟨hV, hi0, hl0, hh0, hr0⟩ := narE_zero.1 h0
    have hLx := hV.len
    obtain ⟨a, ha0⟩ : ∃ a, arcs[i.toNat]? = some a := ⟨_, List.getElem?_eq_getElem (by omega)⟩
    have hcur := ha0
    refine r_skip ?_
    refine r_seq ?_
    refine r_drawE 7 nob Try.mixed (by kernel_rfl) ?_
    intro w31 hl32
    have S33 := S26.step hl32
    refine e_exact 0 _ (by kernel_rfl) rfl rfl (by kernel_rfl) rfl (ex_x rfl (fun w1 h1 => x_fieldAddr rfl Try.runUnderlying24 rfl Try.sizeOf3 (by decide))) ?_
    refine e_exact 1 _ (by kernel_rfl) rfl rfl (by kernel_rfl) rfl (ex_x rfl (fun w1 h1 => x_load rfl (ld_blk ((S33.step h1).blk 0 rfl) Try.isAgg3 rfl))) ?_
    refine e_exact 2 _ (by kernel_rfl) rfl rfl (by kernel_rfl) rfl (ex_x rfl (fun w1 h1 => x_fieldAddr rfl Try.runUnderlying24 rfl Try.sizeOf22 (by decide))) ?_
    refine e_exact 3 _ (by kernel_rfl) rfl rfl (by kernel_rfl) rfl (ex_x rfl (fun w1 h1 => x_load rfl (ld_blk ((S33.step h1).blk 0 rfl) Try.isAgg22 rfl))) ?_
    refine e_next [4, 6] (by kernel_rfl) (by kernel_rfl) ⟨⟨_, _, rfl, rfl, ?_⟩, ⟨_, _, rfl, rfl, ?_⟩, trivial⟩
    · skip
      refine s_callf [] [] [_] rfl rfl Try.call65 rfl ((c_copiedA _ _ (by omega) _ (hA.le S33.le)).mono ?_)
      rintro v2634 w34 ⟨hN2634, hl2634⟩
      have S35 := S33.add hl2634 hN2634
      refine ⟨.of_le hl2634, ?_⟩
      refine e_exact 5 _ (by kernel_rfl) rfl rfl (by kernel_rfl) rfl (ex_x rfl (fun w1 h1 => x_buildS (out := [_, _]) (ss := [1, 1]) Try.zeroValue24 rfl Try.runUnderlying24 ⟨Try.sizeOf3, Try.sizeOf22, trivial⟩ (fill_cons rfl rfl rfl (Nat.le_of_ble_eq_true rfl) (fill_cons rfl (Rd.cells (vec_rd (S35.at 6 rfl))) rfl (Nat.le_of_ble_eq_true rfl) fill_nil)))) ?_
      refine e_next [6] (by kernel_rfl) (by kernel_rfl) ⟨⟨_, _, rfl, rfl, ?_⟩, trivial⟩
      refine s_alloc S35 rfl Try.zeroValue24 rfl ?_
      intro b39 w36 S37 hl38
      refine ⟨.of_le hl38, ?_⟩
      refine e_done (by kernel_rfl) ?_
      refine l_stores (vs := [_, _]) S37 7 rfl rfl rfl rfl (ones_cons rfl (ones_cons (Rd.one (vec_rd (S37.at 6 rfl))) ones_nil)) Try.sizeOf24 (by first | exact Nat.le_refl _ | simp) (splice_all rfl) ?_
      intro w40 S41 hk42
      refine l_nil ?_
      refine r_seq ?_
      refine r_region ?_
      refine l_x rfl (x_fieldAddr rfl Try.runUnderlying24 rfl Try.sizeOf22 (by decide)) ?_
      refine l_x rfl (x_load rfl (ld_blk (S41.blk 7 rfl) Try.isAgg22 rfl)) ?_
      refine l_x rfl (x_load rfl (ld_blk (S41.blk 1 rfl) Try.isAgg3 rfl)) ?_
      refine l_index EA rfl (vec_rd (S41.at 6 rfl)) rfl rfl Try.runUnderlying22 Try.sizeOf39 (by omega) hcur ?_
      intro b43 o44 hat45 row46
      refine l_x rfl (x_as rfl) ?_
      refine l_nil ?_
      refine r_seq ?_
      refine r_seq ?_
      refine r_drawR 6 Try.mixed (by kernel_rfl) ?_
      refine w_x rfl (fun w1 h1 => x_load rfl (ld_blk ((S41.step h1).blk 2 rfl) Try.isAgg3 rfl)) ?_
      refine w_x rfl (fun w1 h1 => x_mv rfl) ?_
      refine w_x rfl (fun w1 h1 => x_nilCheck rfl) ?_
      refine w_x rfl (fun w1 h1 => x_fieldAddr rfl Try.runUnderlying39 rfl Try.sizeOf3 (by decide)) ?_
      refine w_x rfl (fun w1 h1 => x_load rfl (ld_cell Try.isAgg3 ((rd_row (vec_rd ((S41.step h1).at 6 rfl)) hat45 hcur) 2 _ rfl))) ?_
      refine w_x rfl (fun w1 h1 => x_gtr rfl rfl) ?_
      refine w_nil ?_
      intro w47 hl48
      have S49 := S41.step hl48
      refine l_nil ?_
      refine r_ifd rfl (fun hc37 => ?_) (fun hc37 => ?_)
      · skip
        have hcur1 : (arcs.set i.toNat (⟨a.src, a.dst, lo, a.hi, a.loBy, a.hiBy⟩ : Arc))[i.toNat]? = some ⟨a.src, a.dst, lo, a.hi, a.loBy, a.hiBy⟩ := set_get hcur
        have hcur2 : ((arcs.set i.toNat (⟨a.src, a.dst, lo, a.hi, a.loBy, a.hiBy⟩ : Arc)).set i.toNat (⟨a.src, a.dst, lo, a.hi, r, a.hiBy⟩ : Arc))[i.toNat]? = some ⟨a.src, a.dst, lo, a.hi, r, a.hiBy⟩ := set_get hcur1
        refine r_drawE 7 (Rsc.fp (vec EA v2634 arcs)) Try.mixed (by kernel_rfl) ?_
        intro w50 hl51
        have S52 := S49.step hl51
        refine e_exact 0 _ (by kernel_rfl) rfl rfl (by kernel_rfl) rfl (ex_x rfl (fun w1 h1 => x_mv rfl)) ?_
        refine e_exact 1 _ (by kernel_rfl) rfl rfl (by kernel_rfl) rfl (ex_x rfl (fun w1 h1 => x_mv rfl)) ?_
        refine e_exact 2 _ (by kernel_rfl) rfl rfl (by kernel_rfl) rfl (ex_x rfl (fun w1 h1 => x_load rfl (ld_blk ((S52.under 6 rfl h1).blk 2 rfl) Try.isAgg3 rfl))) ?_
        refine e_exact 3 _ (by kernel_rfl) rfl rfl (by kernel_rfl) rfl (ex_x rfl (fun w1 h1 => x_load rfl (ld_blk ((S52.under 6 rfl h1).blk 4 rfl) Try.isAgg3 rfl))) ?_
        refine e_exact 4 _ (by kernel_rfl) rfl rfl (by kernel_rfl) rfl (ex_x rfl (fun w1 h1 => x_nilCheck rfl)) ?_
        refine e_exact 5 _ (by kernel_rfl) rfl rfl (by kernel_rfl) rfl (ex_x rfl (fun w1 h1 => x_fieldAddr rfl Try.runUnderlying39 rfl Try.sizeOf3 (by decide))) ?_
        refine e_next [6] (by kernel_rfl) (by kernel_rfl) ⟨⟨_, _, rfl, rfl, ?_⟩, trivial⟩
        refine s_storevi (a' := ⟨a.src, a.dst, lo, a.hi, a.loBy, a.hiBy⟩) (f := 2) S52 6 rfl rfl hat45 rfl rfl Try.sizeOf3 hcur (by decide) rfl ?_
        intro w53 S54 hk55
        refine ⟨hk55, ?_⟩
        refine e_done (by kernel_rfl) ?_
        refine l_x rfl (x_nilCheck rfl) ?_
        refine l_x rfl (x_fieldAddr rfl Try.runUnderlying39 rfl Try.sizeOf3 (by decide)) ?_
        refine l_storevi (a' := ⟨a.src, a.dst, lo, a.hi, r, a.hiBy⟩) (f := 4) S54 6 rfl rfl hat45 rfl rfl Try.sizeOf3 hcur1 (by decide) rfl ?_
        intro w56 S57 hk58
        refine l_nil ?_
        refine r_seq ?_
        refine r_seq ?_
        have hcur := hcur2
        refine r_drawR 6 Try.mixed (by kernel_rfl) ?_
        refine w_x rfl (fun w1 h1 => x_load rfl (ld_blk ((S57.step h1).blk 3 rfl) Try.isAgg3 rfl)) ?_
        refine w_x rfl (fun w1 h1 => x_mv rfl) ?_
        refine w_x rfl (fun w1 h1 => x_nilCheck rfl) ?_
        refine w_x rfl (fun w1 h1 => x_fieldAddr rfl Try.runUnderlying39 rfl Try.sizeOf3 (by decide)) ?_
        refine w_x rfl (fun w1 h1 => x_load rfl (ld_cell Try.isAgg3 ((rd_row (vec_rd ((S57.step h1).at 6 rfl)) hat45 hcur) 3 _ rfl))) ?_
        refine w_x rfl (fun w1 h1 => x_lss rfl rfl) ?_
        refine w_nil ?_
        intro w59 hl60
        have S61 := S57.step hl60
        refine l_nil ?_
        refine r_ifd rfl (fun hc51 => ?_) (fun hc51 => ?_)
        · skip
          have hcur3 : (((arcs.set i.toNat (⟨a.src, a.dst, lo, a.hi, a.loBy, a.hiBy⟩ : Arc)).set i.toNat (⟨a.src, a.dst, lo, a.hi, r, a.hiBy⟩ : Arc)).set i.toNat (⟨a.src, a.dst, lo, hi, r, a.hiBy⟩ : Arc))[i.toNat]? = some ⟨a.src, a.dst, lo, hi, r, a.hiBy⟩ := set_get hcur
          refine r_drawE 7 (Rsc.fp (vec EA v2634 ((arcs.set i.toNat (⟨a.src, a.dst, lo, a.hi, a.loBy, a.hiBy⟩ : Arc)).set i.toNat (⟨a.src, a.dst, lo, a.hi, r, a.hiBy⟩ : Arc)))) Try.mixed (by kernel_rfl) ?_
          intro w62 hl63
          have S64 := S61.step hl63
          refine e_exact 0 _ (by kernel_rfl) rfl rfl (by kernel_rfl) rfl (ex_x rfl (fun w1 h1 => x_mv rfl)) ?_
          refine e_exact 1 _ (by kernel_rfl) rfl rfl (by kernel_rfl) rfl (ex_x rfl (fun w1 h1 => x_mv rfl)) ?_
          refine e_exact 2 _ (by kernel_rfl) rfl rfl (by kernel_rfl) rfl (ex_x rfl (fun w1 h1 => x_load rfl (ld_blk ((S64.under 6 rfl h1).blk 3 rfl) Try.isAgg3 rfl))) ?_
          refine e_exact 3 _ (by kernel_rfl) rfl rfl (by kernel_rfl) rfl (ex_x rfl (fun w1 h1 => x_load rfl (ld_blk ((S64.under 6 rfl h1).blk 4 rfl) Try.isAgg3 rfl))) ?_
          refine e_exact 4 _ (by kernel_rfl) rfl rfl (by kernel_rfl) rfl (ex_x rfl (fun w1 h1 => x_nilCheck rfl)) ?_
          refine e_exact 5 _ (by kernel_rfl) rfl rfl (by kernel_rfl) rfl (ex_x rfl (fun w1 h1 => x_fieldAddr rfl Try.runUnderlying39 rfl Try.sizeOf3 (by decide))) ?_
          refine e_next [6] (by kernel_rfl) (by kernel_rfl) ⟨⟨_, _, rfl, rfl, ?_⟩, trivial⟩
          refine s_storevi (a' := ⟨a.src, a.dst, lo, hi, r, a.hiBy⟩) (f := 3) S64 6 rfl rfl hat45 rfl rfl Try.sizeOf3 hcur (by decide) rfl ?_
          intro w65 S66 hk67
          refine ⟨hk67, ?_⟩
          refine e_done (by kernel_rfl) ?_
          refine l_x rfl (x_nilCheck rfl) ?_
          refine l_x rfl (x_fieldAddr rfl Try.runUnderlying39 rfl Try.sizeOf3 (by decide)) ?_
          refine l_storevi (a' := ⟨a.src, a.dst, lo, hi, r, r⟩) (f := 5) S66 6 rfl rfl hat45 rfl rfl Try.sizeOf3 hcur3 (by decide) rfl ?_
          intro w68 S69 hk70
          refine l_nil ?_
          refine r_seq ?_
          refine r_region ?_
          refine l_x rfl (x_load rfl (ld_blks (S69.blk 7 rfl) Try.isAgg24 Try.sizeOf24 rfl rfl)) ?_
          refine l_stores (vs := [_, _]) S69 5 rfl rfl rfl rfl (ones_cons rfl (ones_cons (Rd.one (vec_rd (S69.at 6 rfl))) ones_nil)) Try.sizeOf24 (by first | exact Nat.le_refl _ | simp) (splice_all rfl) ?_
          intro w71 S72 hk73
          refine l_x rfl (x_as rfl) ?_
          refine l_nil ?_
          refine r_ret (rs := [.cell 10 24, .tmp 11]) [_, _] Try.func20 rfl ⟨⟨_, rfl, (ld_blks (S72.blk 5 rfl) Try.isAgg24 Try.sizeOf24 rfl rfl)⟩, rfl, trivial⟩ ?_
          exact ⟨v2634, by rw [if_pos h0, h0]; rfl, by rw [if_pos h0]; have hS := S72; rw [nar11 ha0 (by omega) (by omega)] at hS; exact hS.new 6 rfl, S72.le⟩
        · skip
          refine r_skip ?_
          refine r_seq ?_
          refine r_region ?_
          refine l_x rfl (x_load rfl (ld_blks (S61.blk 7 rfl) Try.isAgg24 Try.sizeOf24 rfl rfl)) ?_
          refine l_stores (vs := [_, _]) S61 5 rfl rfl rfl rfl (ones_cons rfl (ones_cons (Rd.one (vec_rd (S61.at 6 rfl))) ones_nil)) Try.sizeOf24 (by first | exact Nat.le_refl _ | simp) (splice_all rfl) ?_
          intro w74 S75 hk76
          refine l_x rfl (x_as rfl) ?_
          refine l_nil ?_
          refine r_ret (rs := [.cell 10 24, .tmp 11]) [_, _] Try.func20 rfl ⟨⟨_, rfl, (ld_blks (S75.blk 5 rfl) Try.isAgg24 Try.sizeOf24 rfl rfl)⟩, rfl, trivial⟩ ?_
          exact ⟨v2634, by rw [if_pos h0, h0]; rfl, by rw [if_pos h0]; have hS := S75; rw [nar10 ha0 (by omega) (by omega)] at hS; exact hS.new 6 rfl, S75.le⟩
      · skip
        refine r_skip ?_
        refine r_seq ?_
        refine r_seq ?_
        
        refine r_drawR 6 Try.mixed (by kernel_rfl) ?_
        refine w_x rfl (fun w1 h1 => x_load rfl (ld_blk ((S49.step h1).blk 3 rfl) Try.isAgg3 rfl)) ?_
        refine w_x rfl (fun w1 h1 => x_mv rfl) ?_
        refine w_x rfl (fun w1 h1 => x_nilCheck rfl) ?_
        refine w_x rfl (fun w1 h1 => x_fieldAddr rfl Try.runUnderlying39 rfl Try.sizeOf3 (by decide)) ?_
        refine w_x rfl (fun w1 h1 => x_load rfl (ld_cell Try.isAgg3 ((rd_row (vec_rd ((S49.step h1).at 6 rfl)) hat45 hcur) 3 _ rfl))) ?_
        refine w_x rfl (fun w1 h1 => x_lss rfl rfl) ?_
        refine w_nil ?_
        intro w77 hl78
        have S79 := S49.step hl78
        refine l_nil ?_
        refine r_ifd rfl (fun hc51 => ?_) (fun hc51 => ?_)
        · skip
          have hcur3 : (arcs.set i.toNat (⟨a.src, a.dst, a.lo, hi, a.loBy, a.hiBy⟩ : Arc))[i.toNat]? = some ⟨a.src, a.dst, a.lo, hi, a.loBy, a.hiBy⟩ := set_get hcur
          refine r_drawE 7 (Rsc.fp (vec EA v2634 arcs)) Try.mixed (by kernel_rfl) ?_
          intro w80 hl81
          have S82 := S79.step hl81
          refine e_exact 0 _ (by kernel_rfl) rfl rfl (by kernel_rfl) rfl (ex_x rfl (fun w1 h1 => x_mv rfl)) ?_
          refine e_exact 1 _ (by kernel_rfl) rfl rfl (by kernel_rfl) rfl (ex_x rfl (fun w1 h1 => x_mv rfl)) ?_
          refine e_exact 2 _ (by kernel_rfl) rfl rfl (by kernel_rfl) rfl (ex_x rfl (fun w1 h1 => x_load rfl (ld_blk ((S82.under 6 rfl h1).blk 3 rfl) Try.isAgg3 rfl))) ?_
          refine e_exact 3 _ (by kernel_rfl) rfl rfl (by kernel_rfl) rfl (ex_x rfl (fun w1 h1 => x_load rfl (ld_blk ((S82.under 6 rfl h1).blk 4 rfl) Try.isAgg3 rfl))) ?_
          refine e_exact 4 _ (by kernel_rfl) rfl rfl (by kernel_rfl) rfl (ex_x rfl (fun w1 h1 => x_nilCheck rfl)) ?_
          refine e_exact 5 _ (by kernel_rfl) rfl rfl (by kernel_rfl) rfl (ex_x rfl (fun w1 h1 => x_fieldAddr rfl Try.runUnderlying39 rfl Try.sizeOf3 (by decide))) ?_
          refine e_next [6] (by kernel_rfl) (by kernel_rfl) ⟨⟨_, _, rfl, rfl, ?_⟩, trivial⟩
          refine s_storevi (a' := ⟨a.src, a.dst, a.lo, hi, a.loBy, a.hiBy⟩) (f := 3) S82 6 rfl rfl hat45 rfl rfl Try.sizeOf3 hcur (by decide) rfl ?_
          intro w83 S84 hk85
          refine ⟨hk85, ?_⟩
          refine e_done (by kernel_rfl) ?_
          refine l_x rfl (x_nilCheck rfl) ?_
          refine l_x rfl (x_fieldAddr rfl Try.runUnderlying39 rfl Try.sizeOf3 (by decide)) ?_
          refine l_storevi (a' := ⟨a.src, a.dst, a.lo, hi, a.loBy, r⟩) (f := 5) S84 6 rfl rfl hat45 rfl rfl Try.sizeOf3 hcur3 (by decide) rfl ?_
          intro w86 S87 hk88
          refine l_nil ?_
          refine r_seq ?_
          refine r_region ?_
          refine l_x rfl (x_load rfl (ld_blks (S87.blk 7 rfl) Try.isAgg24 Try.sizeOf24 rfl rfl)) ?_
          refine l_stores (vs := [_, _]) S87 5 rfl rfl rfl rfl (ones_cons rfl (ones_cons (Rd.one (vec_rd (S87.at 6 rfl))) ones_nil)) Try.sizeOf24 (by first | exact Nat.le_refl _ | simp) (splice_all rfl) ?_
          intro w89 S90 hk91
          refine l_x rfl (x_as rfl) ?_
          refine l_nil ?_
          refine r_ret (rs := [.cell 10 24, .tmp 11]) [_, _] Try.func20 rfl ⟨⟨_, rfl, (ld_blks (S90.blk 5 rfl) Try.isAgg24 Try.sizeOf24 rfl rfl)⟩, rfl, trivial⟩ ?_
          exact ⟨v2634, by rw [if_pos h0, h0]; rfl, by rw [if_pos h0]; have hS := S90; rw [nar01 ha0 (by omega) (by omega)] at hS; exact hS.new 6 rfl, S90.le⟩
        · skip
          refine r_skip ?_
          refine r_seq ?_
          refine r_region ?_
          refine l_x rfl (x_load rfl (ld_blks (S79.blk 7 rfl) Try.isAgg24 Try.sizeOf24 rfl rfl)) ?_
          refine l_stores (vs := [_, _]) S79 5 rfl rfl rfl rfl (ones_cons rfl (ones_cons (Rd.one (vec_rd (S79.at 6 rfl))) ones_nil)) Try.sizeOf24 (by first | exact Nat.le_refl _ | simp) (splice_all rfl) ?_
          intro w92 S93 hk94
          refine l_x rfl (x_as rfl) ?_
          refine l_nil ?_
          refine r_ret (rs := [.cell 10 24, .tmp 11]) [_, _] Try.func20 rfl ⟨⟨_, rfl, (ld_blks (S93.blk 5 rfl) Try.isAgg24 Try.sizeOf24 rfl rfl)⟩, rfl, trivial⟩ ?_
          exact ⟨v2634, by rw [if_pos h0, h0]; rfl, by rw [if_pos h0, ← nar00 ha0 (by omega) (by omega)]; exact S93.new 6 rfl, S93.le⟩
    · skip
      refine s_alloc S33 rfl Try.zeroValue24 rfl ?_
      intro b98 w95 S96 hl97
      refine ⟨.of_le hl97, ?_⟩
      refine e_next [4] (by kernel_rfl) (by kernel_rfl) ⟨⟨_, _, rfl, rfl, ?_⟩, trivial⟩
      refine s_callf [] [] [_] rfl rfl Try.call65 rfl ((c_copiedA _ _ (by omega) _ (hA.le S96.le)).mono ?_)
      rintro v2699 w99 ⟨hN2699, hl2699⟩
      have S100 := S96.add hl2699 hN2699
      refine ⟨.of_le hl2699, ?_⟩
      refine e_exact 5 _ (by kernel_rfl) rfl rfl (by kernel_rfl) rfl (ex_x rfl (fun w1 h1 => x_buildS (out := [_, _]) (ss := [1, 1]) Try.zeroValue24 rfl Try.runUnderlying24 ⟨Try.sizeOf3, Try.sizeOf22, trivial⟩ (fill_cons rfl rfl rfl (Nat.le_of_ble_eq_true rfl) (fill_cons rfl (Rd.cells (vec_rd (S100.at 7 rfl))) rfl (Nat.le_of_ble_eq_true rfl) fill_nil)))) ?_
      refine e_done (by kernel_rfl) ?_
      refine l_stores (vs := [_, _]) S100 6 rfl rfl rfl rfl (ones_cons rfl (ones_cons (Rd.one (vec_rd (S100.at 7 rfl))) ones_nil)) Try.sizeOf24 (by first | exact Nat.le_refl _ | simp) (splice_all rfl) ?_
      intro w101 S102 hk103
      refine l_nil ?_
      refine r_seq ?_
      refine r_region ?_
      refine l_x rfl (x_fieldAddr rfl Try.runUnderlying24 rfl Try.sizeOf22 (by decide)) ?_
      refine l_x rfl (x_load rfl (ld_blk (S102.blk 6 rfl) Try.isAgg22 rfl)) ?_
      refine l_x rfl (x_load rfl (ld_blk (S102.blk 1 rfl) Try.isAgg3 rfl)) ?_
      refine l_index EA rfl (vec_rd (S102.at 7 rfl)) rfl rfl Try.runUnderlying22 Try.sizeOf39 (by omega) hcur ?_
      intro b104 o105 hat106 row107
      refine l_x rfl (x_as rfl) ?_
      refine l_nil ?_
      refine r_seq ?_
      refine r_seq ?_
      refine r_drawR 6 Try.mixed (by kernel_rfl) ?_
      refine w_x rfl (fun w1 h1 => x_load rfl (ld_blk ((S102.step h1).blk 2 rfl) Try.isAgg3 rfl)) ?_
      refine w_x rfl (fun w1 h1 => x_mv rfl) ?_
      refine w_x rfl (fun w1 h1 => x_nilCheck rfl) ?_
      refine w_x rfl (fun w1 h1 => x_fieldAddr rfl Try.runUnderlying39 rfl Try.sizeOf3 (by decide)) ?_
      refine w_x rfl (fun w1 h1 => x_load rfl (ld_cell Try.isAgg3 ((rd_row (vec_rd ((S102.step h1).at 7 rfl)) hat106 hcur) 2 _ rfl))) ?_
      refine w_x rfl (fun w1 h1 => x_gtr rfl rfl) ?_
      refine w_nil ?_
      intro w108 hl109
      have S110 := S102.step hl109
      refine l_nil ?_
      refine r_ifd rfl (fun hc37 => ?_) (fun hc37 => ?_)
      · skip
        have hcur1 : (arcs.set i.toNat (⟨a.src, a.dst, lo, a.hi, a.loBy, a.hiBy⟩ : Arc))[i.toNat]? = some ⟨a.src, a.dst, lo, a.hi, a.loBy, a.hiBy⟩ := set_get hcur
        have hcur2 : ((arcs.set i.toNat (⟨a.src, a.dst, lo, a.hi, a.loBy, a.hiBy⟩ : Arc)).set i.toNat (⟨a.src, a.dst, lo, a.hi, r, a.hiBy⟩ : Arc))[i.toNat]? = some ⟨a.src, a.dst, lo, a.hi, r, a.hiBy⟩ := set_get hcur1
        refine r_drawE 7 (Rsc.fp (vec EA v2699 arcs)) Try.mixed (by kernel_rfl) ?_
        intro w111 hl112
        have S113 := S110.step hl112
        refine e_exact 0 _ (by kernel_rfl) rfl rfl (by kernel_rfl) rfl (ex_x rfl (fun w1 h1 => x_mv rfl)) ?_
        refine e_exact 1 _ (by kernel_rfl) rfl rfl (by kernel_rfl) rfl (ex_x rfl (fun w1 h1 => x_mv rfl)) ?_
        refine e_exact 2 _ (by kernel_rfl) rfl rfl (by kernel_rfl) rfl (ex_x rfl (fun w1 h1 => x_load rfl (ld_blk ((S113.under 7 rfl h1).blk 2 rfl) Try.isAgg3 rfl))) ?_
        refine e_exact 3 _ (by kernel_rfl) rfl rfl (by kernel_rfl) rfl (ex_x rfl (fun w1 h1 => x_load rfl (ld_blk ((S113.under 7 rfl h1).blk 4 rfl) Try.isAgg3 rfl))) ?_
        refine e_exact 4 _ (by kernel_rfl) rfl rfl (by kernel_rfl) rfl (ex_x rfl (fun w1 h1 => x_nilCheck rfl)) ?_
        refine e_exact 5 _ (by kernel_rfl) rfl rfl (by kernel_rfl) rfl (ex_x rfl (fun w1 h1 => x_fieldAddr rfl Try.runUnderlying39 rfl Try.sizeOf3 (by decide))) ?_
        refine e_next [6] (by kernel_rfl) (by kernel_rfl) ⟨⟨_, _, rfl, rfl, ?_⟩, trivial⟩
        refine s_storevi (a' := ⟨a.src, a.dst, lo, a.hi, a.loBy, a.hiBy⟩) (f := 2) S113 7 rfl rfl hat106 rfl rfl Try.sizeOf3 hcur (by decide) rfl ?_
        intro w114 S115 hk116
        refine ⟨hk116, ?_⟩
        refine e_done (by kernel_rfl) ?_
        refine l_x rfl (x_nilCheck rfl) ?_
        refine l_x rfl (x_fieldAddr rfl Try.runUnderlying39 rfl Try.sizeOf3 (by decide)) ?_
        refine l_storevi (a' := ⟨a.src, a.dst, lo, a.hi, r, a.hiBy⟩) (f := 4) S115 7 rfl rfl hat106 rfl rfl Try.sizeOf3 hcur1 (by decide) rfl ?_
        intro w117 S118 hk119
        refine l_nil ?_
        refine r_seq ?_
        refine r_seq ?_
        have hcur := hcur2
        refine r_drawR 6 Try.mixed (by kernel_rfl) ?_
        refine w_x rfl (fun w1 h1 => x_load rfl (ld_blk ((S118.step h1).blk 3 rfl) Try.isAgg3 rfl)) ?_
        refine w_x rfl (fun w1 h1 => x_mv rfl) ?_
        refine w_x rfl (fun w1 h1 => x_nilCheck rfl) ?_
        refine w_x rfl (fun w1 h1 => x_fieldAddr rfl Try.runUnderlying39 rfl Try.sizeOf3 (by decide)) ?_
        refine w_x rfl (fun w1 h1 => x_load rfl (ld_cell Try.isAgg3 ((rd_row (vec_rd ((S118.step h1).at 7 rfl)) hat106 hcur) 3 _ rfl))) ?_
        refine w_x rfl (fun w1 h1 => x_lss rfl rfl) ?_
        refine w_nil ?_
        intro w120 hl121
        have S122 := S118.step hl121
        refine l_nil ?_
        refine r_ifd rfl (fun hc51 => ?_) (fun hc51 => ?_)
        · skip
          have hcur3 : (((arcs.set i.toNat (⟨a.src, a.dst, lo, a.hi, a.loBy, a.hiBy⟩ : Arc)).set i.toNat (⟨a.src, a.dst, lo, a.hi, r, a.hiBy⟩ : Arc)).set i.toNat (⟨a.src, a.dst, lo, hi, r, a.hiBy⟩ : Arc))[i.toNat]? = some ⟨a.src, a.dst, lo, hi, r, a.hiBy⟩ := set_get hcur
          refine r_drawE 7 (Rsc.fp (vec EA v2699 ((arcs.set i.toNat (⟨a.src, a.dst, lo, a.hi, a.loBy, a.hiBy⟩ : Arc)).set i.toNat (⟨a.src, a.dst, lo, a.hi, r, a.hiBy⟩ : Arc)))) Try.mixed (by kernel_rfl) ?_
          intro w123 hl124
          have S125 := S122.step hl124
          refine e_exact 0 _ (by kernel_rfl) rfl rfl (by kernel_rfl) rfl (ex_x rfl (fun w1 h1 => x_mv rfl)) ?_
          refine e_exact 1 _ (by kernel_rfl) rfl rfl (by kernel_rfl) rfl (ex_x rfl (fun w1 h1 => x_mv rfl)) ?_
          refine e_exact 2 _ (by kernel_rfl) rfl rfl (by kernel_rfl) rfl (ex_x rfl (fun w1 h1 => x_load rfl (ld_blk ((S125.under 7 rfl h1).blk 3 rfl) Try.isAgg3 rfl))) ?_
          refine e_exact 3 _ (by kernel_rfl) rfl rfl (by kernel_rfl) rfl (ex_x rfl (fun w1 h1 => x_load rfl (ld_blk ((S125.under 7 rfl h1).blk 4 rfl) Try.isAgg3 rfl))) ?_
          refine e_exact 4 _ (by kernel_rfl) rfl rfl (by kernel_rfl) rfl (ex_x rfl (fun w1 h1 => x_nilCheck rfl)) ?_
          refine e_exact 5 _ (by kernel_rfl) rfl rfl (by kernel_rfl) rfl (ex_x rfl (fun w1 h1 => x_fieldAddr rfl Try.runUnderlying39 rfl Try.sizeOf3 (by decide))) ?_
          refine e_next [6] (by kernel_rfl) (by kernel_rfl) ⟨⟨_, _, rfl, rfl, ?_⟩, trivial⟩
          refine s_storevi (a' := ⟨a.src, a.dst, lo, hi, r, a.hiBy⟩) (f := 3) S125 7 rfl rfl hat106 rfl rfl Try.sizeOf3 hcur (by decide) rfl ?_
          intro w126 S127 hk128
          refine ⟨hk128, ?_⟩
          refine e_done (by kernel_rfl) ?_
          refine l_x rfl (x_nilCheck rfl) ?_
          refine l_x rfl (x_fieldAddr rfl Try.runUnderlying39 rfl Try.sizeOf3 (by decide)) ?_
          refine l_storevi (a' := ⟨a.src, a.dst, lo, hi, r, r⟩) (f := 5) S127 7 rfl rfl hat106 rfl rfl Try.sizeOf3 hcur3 (by decide) rfl ?_
          intro w129 S130 hk131
          refine l_nil ?_
          refine r_seq ?_
          refine r_region ?_
          refine l_x rfl (x_load rfl (ld_blks (S130.blk 6 rfl) Try.isAgg24 Try.sizeOf24 rfl rfl)) ?_
          refine l_stores (vs := [_, _]) S130 5 rfl rfl rfl rfl (ones_cons rfl (ones_cons (Rd.one (vec_rd (S130.at 7 rfl))) ones_nil)) Try.sizeOf24 (by first | exact Nat.le_refl _ | simp) (splice_all rfl) ?_
          intro w132 S133 hk134
          refine l_x rfl (x_as rfl) ?_
          refine l_nil ?_
          refine r_ret (rs := [.cell 10 24, .tmp 11]) [_, _] Try.func20 rfl ⟨⟨_, rfl, (ld_blks (S133.blk 5 rfl) Try.isAgg24 Try.sizeOf24 rfl rfl)⟩, rfl, trivial⟩ ?_
          exact ⟨v2699, by rw [if_pos h0, h0]; rfl, by rw [if_pos h0]; have hS := S133; rw [nar11 ha0 (by omega) (by omega)] at hS; exact hS.new 7 rfl, S133.le⟩
        · skip
          refine r_skip ?_
          refine r_seq ?_
          refine r_region ?_
          refine l_x rfl (x_load rfl (ld_blks (S122.blk 6 rfl) Try.isAgg24 Try.sizeOf24 rfl rfl)) ?_
          refine l_stores (vs := [_, _]) S122 5 rfl rfl rfl rfl (ones_cons rfl (ones_cons (Rd.one (vec_rd (S122.at 7 rfl))) ones_nil)) Try.sizeOf24 (by first | exact Nat.le_refl _ | simp) (splice_all rfl) ?_
          intro w135 S136 hk137
          refine l_x rfl (x_as rfl) ?_
          refine l_nil ?_
          refine r_ret (rs := [.cell 10 24, .tmp 11]) [_, _] Try.func20 rfl ⟨⟨_, rfl, (ld_blks (S136.blk 5 rfl) Try.isAgg24 Try.sizeOf24 rfl rfl)⟩, rfl, trivial⟩ ?_
          exact ⟨v2699, by rw [if_pos h0, h0]; rfl, by rw [if_pos h0]; have hS := S136; rw [nar10 ha0 (by omega) (by omega)] at hS; exact hS.new 7 rfl, S136.le⟩
      · skip
        refine r_skip ?_
        refine r_seq ?_
        refine r_seq ?_
        
        refine r_drawR 6 Try.mixed (by kernel_rfl) ?_
        refine w_x rfl (fun w1 h1 => x_load rfl (ld_blk ((S110.step h1).blk 3 rfl) Try.isAgg3 rfl)) ?_
        refine w_x rfl (fun w1 h1 => x_mv rfl) ?_
        refine w_x rfl (fun w1 h1 => x_nilCheck rfl) ?_
        refine w_x rfl (fun w1 h1 => x_fieldAddr rfl Try.runUnderlying39 rfl Try.sizeOf3 (by decide)) ?_
        refine w_x rfl (fun w1 h1 => x_load rfl (ld_cell Try.isAgg3 ((rd_row (vec_rd ((S110.step h1).at 7 rfl)) hat106 hcur) 3 _ rfl))) ?_
        refine w_x rfl (fun w1 h1 => x_lss rfl rfl) ?_
        refine w_nil ?_
        intro w138 hl139
        have S140 := S110.step hl139
        refine l_nil ?_
        refine r_ifd rfl (fun hc51 => ?_) (fun hc51 => ?_)
        · skip
          have hcur3 : (arcs.set i.toNat (⟨a.src, a.dst, a.lo, hi, a.loBy, a.hiBy⟩ : Arc))[i.toNat]? = some ⟨a.src, a.dst, a.lo, hi, a.loBy, a.hiBy⟩ := set_get hcur
          refine r_drawE 7 (Rsc.fp (vec EA v2699 arcs)) Try.mixed (by kernel_rfl) ?_
          intro w141 hl142
          have S143 := S140.step hl142
          refine e_exact 0 _ (by kernel_rfl) rfl rfl (by kernel_rfl) rfl (ex_x rfl (fun w1 h1 => x_mv rfl)) ?_
          refine e_exact 1 _ (by kernel_rfl) rfl rfl (by kernel_rfl) rfl (ex_x rfl (fun w1 h1 => x_mv rfl)) ?_
          refine e_exact 2 _ (by kernel_rfl) rfl rfl (by kernel_rfl) rfl (ex_x rfl (fun w1 h1 => x_load rfl (ld_blk ((S143.under 7 rfl h1).blk 3 rfl) Try.isAgg3 rfl))) ?_
          refine e_exact 3 _ (by kernel_rfl) rfl rfl (by kernel_rfl) rfl (ex_x rfl (fun w1 h1 => x_load rfl (ld_blk ((S143.under 7 rfl h1).blk 4 rfl) Try.isAgg3 rfl))) ?_
          refine e_exact 4 _ (by kernel_rfl) rfl rfl (by kernel_rfl) rfl (ex_x rfl (fun w1 h1 => x_nilCheck rfl)) ?_
          refine e_exact 5 _ (by kernel_rfl) rfl rfl (by kernel_rfl) rfl (ex_x rfl (fun w1 h1 => x_fieldAddr rfl Try.runUnderlying39 rfl Try.sizeOf3 (by decide))) ?_
          refine e_next [6] (by kernel_rfl) (by kernel_rfl) ⟨⟨_, _, rfl, rfl, ?_⟩, trivial⟩
          refine s_storevi (a' := ⟨a.src, a.dst, a.lo, hi, a.loBy, a.hiBy⟩) (f := 3) S143 7 rfl rfl hat106 rfl rfl Try.sizeOf3 hcur (by decide) rfl ?_
          intro w144 S145 hk146
          refine ⟨hk146, ?_⟩
          refine e_done (by kernel_rfl) ?_
          refine l_x rfl (x_nilCheck rfl) ?_
          refine l_x rfl (x_fieldAddr rfl Try.runUnderlying39 rfl Try.sizeOf3 (by decide)) ?_
          refine l_storevi (a' := ⟨a.src, a.dst, a.lo, hi, a.loBy, r⟩) (f := 5) S145 7 rfl rfl hat106 rfl rfl Try.sizeOf3 hcur3 (by decide) rfl ?_
          intro w147 S148 hk149
          refine l_nil ?_
          refine r_seq ?_
          refine r_region ?_
          refine l_x rfl (x_load rfl (ld_blks (S148.blk 6 rfl) Try.isAgg24 Try.sizeOf24 rfl rfl)) ?_
          refine l_stores (vs := [_, _]) S148 5 rfl rfl rfl rfl (ones_cons rfl (ones_cons (Rd.one (vec_rd (S148.at 7 rfl))) ones_nil)) Try.sizeOf24 (by first | exact Nat.le_refl _ | simp) (splice_all rfl) ?_
          intro w150 S151 hk152
          refine l_x rfl (x_as rfl) ?_
          refine l_nil ?_
          refine r_ret (rs := [.cell 10 24, .tmp 11]) [_, _] Try.func20 rfl ⟨⟨_, rfl, (ld_blks (S151.blk 5 rfl) Try.isAgg24 Try.sizeOf24 rfl rfl)⟩, rfl, trivial⟩ ?_
          exact ⟨v2699, by rw [if_pos h0, h0]; rfl, by rw [if_pos h0]; have hS := S151; rw [nar01 ha0 (by omega) (by omega)] at hS; exact hS.new 7 rfl, S151.le⟩
        · skip
          refine r_skip ?_
          refine r_seq ?_
          refine r_region ?_
          refine l_x rfl (x_load rfl (ld_blks (S140.blk 6 rfl) Try.isAgg24 Try.sizeOf24 rfl rfl)) ?_
          refine l_stores (vs := [_, _]) S140 5 rfl rfl rfl rfl (ones_cons rfl (ones_cons (Rd.one (vec_rd (S140.at 7 rfl))) ones_nil)) Try.sizeOf24 (by first | exact Nat.le_refl _ | simp) (splice_all rfl) ?_
          intro w153 S154 hk155
          refine l_x rfl (x_as rfl) ?_
          refine l_nil ?_
          refine r_ret (rs := [.cell 10 24, .tmp 11]) [_, _] Try.func20 rfl ⟨⟨_, rfl, (ld_blks (S154.blk 5 rfl) Try.isAgg24 Try.sizeOf24 rfl rfl)⟩, rfl, trivial⟩ ?_
          exact ⟨v2699, by rw [if_pos h0, h0]; rfl, by rw [if_pos h0, ← nar00 ha0 (by omega) (by omega)]; exact S154.new 7 rfl, S154.le⟩

end Go.Proofs
