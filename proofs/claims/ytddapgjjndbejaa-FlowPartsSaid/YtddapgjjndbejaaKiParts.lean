/- Texts joined for a claim: F24. -/
import Derived.Test.YtddapgjjndbejaaKhParts
import Derived.Test.YtddapgjjndbejaaKcParts
/-
  Contracts of functions of the program: each by symbolic execution of its text.
-/
namespace Go.Proofs
open Go Go.Vk Go.Vk.Flow

abbrev EHI := hdE 25
theorem info25 : Try.prog.info? 25 = some Try.t25 := by kernel_rfl
theorem size25 : (Try.prog.info? 25).map (·.size) = some 1 := by rw [info25]; rfl

/-- couchant/flow.Circles$1. -/
theorem c_Circles1 (N : Int) (va : Value) (arcs : List Arc) (vx : Value) (x : List Int) (b0 b1 : Nat) (hmx : x.length ≤ 9223372036854775807) (w : World) (h0 : Blk w b0 [.int .i64 N, va] 24) (h1 : Blk w b1 [vx] 25)  (hA : Rd EA w va arcs) (Hx : Rd EI w vx x) :
    Cl Try.prog 114 #[.pointer (some ⟨b0, 0, none⟩), .pointer (some ⟨b1, 0, none⟩)] w fun v w' => v = .bool (row x arcs.length 0 1000000) ∧ Le w w' := by
  refine fn_of_run (args := [_, _]) 6 Try.func114 rfl rfl rfl fun cs => ?_
  have S := Own.start (X := nob) w
  refine r_seq ?_
  refine r_region ?_
  refine l_x rfl (x_as rfl) ?_
  refine l_nil ?_
  refine r_seq ?_
  refine r_region ?_
  refine l_x rfl (x_load rfl (ld_blks (h0.keep S.le id) Try.isAgg24 Try.sizeOf24 rfl rfl)) ?_
  refine l_x rfl (x_load rfl (ld_blk (h1.keep S.le id) Try.isAgg25 rfl)) ?_
  refine l_call [] [] [_, _] rfl rfl Try.call67 rfl (c_amounts N _ arcs _ _ (by omega) _ (hA.le S.le) (Hx.le S.le)) ?_
  rintro _ w1 ⟨rfl, hl3⟩
  have S2 := S.step hl3
  refine l_x rfl (x_as rfl) ?_
  refine l_nil ?_
  refine r_ret (rs := [.tmp 2]) [_] Try.func114 rfl ⟨rfl, trivial⟩ ?_
  exact ⟨congrArg Value.bool (by simp [*]), S2.le⟩

/-- couchant/flow.Circles$2. -/
theorem c_Circles2 (vl : Value) (L : List Int) (z : Int) (bl : Nat) (hz : 0 ≤ z ∧ z.toNat < L.length) (w : World) (hb : Blk w bl [vl] 25) (HL : Rd EI w vl L) :
    Cl Try.prog 118 #[.int .i64 z, .pointer (some ⟨bl, 0, none⟩)] w fun v w' => v = .bool (decide (0 < nth L z.toNat)) ∧ Le w w' := by
  refine fn_of_run (args := [_, _]) 9 Try.func118 rfl rfl rfl fun cs => ?_
  have S := Own.start (X := nob) w
  refine r_seq ?_
  refine r_region ?_
  refine l_x rfl (x_as rfl) ?_
  refine l_nil ?_
  refine r_seq ?_
  refine r_region ?_
  refine l_x rfl (x_load rfl (ld_blk (hb.keep S.le id) Try.isAgg25 rfl)) ?_
  refine l_x rfl (x_mv rfl) ?_
  refine l_index EI rfl (HL.le S.le) rfl rfl Try.runUnderlying25 Try.sizeOf3 (by omega) (nth_get hz.2) ?_
  intro b1 o2 hat3 row4
  refine l_x rfl (x_load rfl (ld_cell Try.isAgg3 (row4 0 _ rfl))) ?_
  refine l_x rfl (x_gtr rfl rfl) ?_
  refine l_x rfl (x_as rfl) ?_
  refine l_nil ?_
  refine r_ret (rs := [.tmp 3]) [_] Try.func118 rfl ⟨rfl, trivial⟩ ?_
  exact ⟨rfl, S.le⟩

set_option maxHeartbeats 4000000 in
/-- couchant/flow.Circles. -/
theorem c_Circles (N : Int) (va : Value) (arcs : List Arc) (vx : Value) (x : List Int) (hmx : x.length ≤ 9223372036854775807) (w : World) (hA : Rd EA w va arcs) (Hx : Rd EI w vx x) :
    Cl Try.prog 59 #[.agg #[.int .i64 N, va], vx] w fun v w' => ∃ s ds zs e, v = .tuple #[s, .int .i64 e] ∧ Own nob w w' [vec EC s ds, pack (nest EI (ds.map (·.1)) (zs.map (·.1)))] ∧ Fit ds zs ∧ CirR N arcs x zs e := by
  refine fn_of_run (args := [_, _]) 169 Try.func59 rfl rfl rfl fun cs => ?_
  have S := Own.start (X := nob) w
  refine r_seq ?_
  refine r_region ?_
  refine l_box S rfl rfl ?_
  intro b4 w1 S2 hl3
  refine l_box S2 rfl (Rd.cells (Hx.le S2.le)) ?_
  intro b8 w5 S6 hl7
  refine l_x rfl (x_as rfl) ?_
  refine l_x rfl (x_as rfl) ?_
  refine l_nil ?_
  refine r_seq ?_
  refine r_seq ?_
  refine r_region ?_
  refine l_x rfl (x_load rfl (ld_blks (S6.blk 0 rfl) Try.isAgg24 Try.sizeOf24 rfl rfl)) ?_
  refine l_x rfl (x_func rfl rfl) ?_
  refine l_call [] [] [_, _] rfl rfl Try.call62 rfl (c_asked N va arcs (row x arcs.length 0 1000000) 114 [_, _] _ (hA.le S6.le) Try.call114 (fun _ w1 h1 => c_Circles1 N va arcs vx x _ _ (by omega) w1 ((S6.blk 0 rfl).keep h1 id) ((S6.blk 1 rfl).keep h1 id) (hA.le (S6.le.trans h1)) (Hx.le (S6.le.trans h1)))) ?_
  rintro _ w9 ⟨rfl, hl11⟩
  have S10 := S6.step hl11
  refine l_x rfl (x_as rfl) ?_
  refine l_nil ?_
  refine r_seq ?_
  refine r_region ?_
  refine l_x rfl (x_mv rfl) ?_
  refine l_x rfl (x_neq rfl rfl) ?_
  refine l_nil ?_
  refine r_ifd rfl (fun hc27 => ?_) (fun hc27 => ?_)
  · skip
    refine r_seq ?_
    refine r_region ?_
    refine l_x rfl (x_mv rfl) ?_
    refine l_x rfl (x_as rfl) ?_
    refine l_x rfl (x_as rfl) ?_
    refine l_nil ?_
    refine r_ret (rs := [.tmp 4, .tmp 5]) [_, _] Try.func59 rfl ⟨rfl, rfl, trivial⟩ ?_
    exact ⟨_, [], [], _, rfl, ((S10.nilvec (E := EC)).nest EI 0).pick [2, 3] (by decide) rfl, .nil, .bad hc27⟩
  · skip
    have h0 := Decidable.not_not.1 hc27
    obtain ⟨hV, hq0⟩ := askd_zero.1 h0
    have hx := row_amts.1 hq0
    have hLx := hV.len
    have hNx := hV.max
    have hN1 := hV.pos
    have hxl := hx.len
    refine r_skip ?_
    refine r_seq ?_
    refine r_seq ?_
    refine r_region ?_
    refine l_x rfl (x_load rfl (ld_blks (S10.blk 0 rfl) Try.isAgg24 Try.sizeOf24 rfl rfl)) ?_
    refine l_x rfl (x_load rfl (ld_blk (S10.blk 1 rfl) Try.isAgg25 rfl)) ?_
    refine l_call [] [] [_, _] rfl rfl Try.call68 rfl (c_kept N va arcs _ _ hV hx _ (hA.le S10.le) (Hx.le S10.le)) ?_
    rintro _ w12 ⟨rfl, hl14⟩
    have S13 := S10.step hl14
    refine l_x rfl (x_not rfl) ?_
    refine l_nil ?_
    refine r_if rfl (fun hc32 => ?_) (fun hc32 => ?_)
    · skip
      have hk : ¬ kept 1000 arcs x = true := by simpa using hc32
      refine r_seq ?_
      refine r_region ?_
      refine l_x rfl (x_as rfl) ?_
      refine l_x rfl (x_as rfl) ?_
      refine l_nil ?_
      refine r_ret (rs := [.tmp 4, .tmp 5]) [_, _] Try.func59 rfl ⟨rfl, rfl, trivial⟩ ?_
      exact ⟨_, [], [], _, rfl, ((S13.nilvec (E := EC)).nest EI 0).pick [2, 3] (by decide) rfl, .nil, .no h0 hk⟩
    · skip
      have hk : kept 1000 arcs x = true := by simpa using hc32
      have hcx := (kept_iff hV hxl).1 hk
      refine r_skip ?_
      refine r_seq ?_
      refine r_region ?_
      refine l_x rfl (x_load rfl (ld_blk (S13.blk 1 rfl) Try.isAgg25 rfl)) ?_
      refine l_call [] [] [_] rfl rfl Try.call115 rfl (c_copiedI _ _ (by omega) _ (Hx.le S13.le)) ?_
      rintro v3415 w15 ⟨hN3415, hl3415⟩
      have S16 := S13.add hl3415 hN3415
      refine l_alloc S16 rfl Try.zeroValue25 rfl ?_
      intro b20 w17 S18 hl19
      refine l_storeq (c' := [_]) (v := v3415) S18 3 rfl rfl rfl rfl (Rd.one (vec_rd (S18.at 2 rfl))) Try.sizeOf25 (by simp) rfl ?_
      intro w21 S22 hk23
      refine l_nil ?_
      refine r_seq ?_
      refine r_region ?_
      refine l_x rfl (x_fieldAddr rfl Try.runUnderlying24 rfl Try.sizeOf3 (by decide)) ?_
      refine l_x rfl (x_load rfl (ld_blk (S22.blk 0 rfl) Try.isAgg3 rfl)) ?_
      refine l_make EHI (none, 0, 0) S22 rfl Try.runUnderlying119 Try.sizeOf25 Try.typeInfo25 Try.zeroValue25 rfl rfl (congrArg (Value.int .i64) (Int.toNat_of_nonneg (by omega)).symm) (congrArg (Value.int .i64) (Int.toNat_of_nonneg (by omega)).symm) (Nat.le_refl _) (by unfold maxLen; omega) (by show _ * 24 ≤ _; omega) ?_
      intro v27 w24 hv28 S25 hl26
      refine l_x rfl (x_as rfl) ?_
      refine l_nil ?_
      refine r_seq ?_
      refine r_seq ?_
      have Sn := S25.nest EI N.toNat
      rw [← byo_zero (arcs := arcs)] at Sn
      refine r_region ?_
      refine l_x rfl (x_fieldAddr rfl Try.runUnderlying24 rfl Try.sizeOf22 (by decide)) ?_
      refine l_x rfl (x_load rfl (ld_blk (Sn.blk 0 rfl) Try.isAgg22 rfl)) ?_
      refine l_x rfl (x_len (hA.le Sn.le) rfl Try.runUnderlying22) ?_
      refine l_x rfl (x_mv rfl) ?_
      refine l_nil ?_
      refine r_block ?_
      refine r_loop (G := Nat × List Hd) (fun ⟨i, hs⟩ => arcs.length - i) (fun ⟨i, hs⟩ => [(2, .pointer (some ⟨b4, 0, none⟩)), (7, .pointer (some ⟨b20, 0, none⟩)), (8, v27), (39, va), (40, .int .i64 arcs.length), (41, .int .i64 i)]) (fun ⟨i, hs⟩ w' => (i ≤ arcs.length) ∧ (hs.length = N.toNat) ∧ Own nob w w' [blk b4 [.int .i64 N, va] 24, blk b8 [vx] 25, vec EI v3415 x, blk b20 [v3415] 25, vec EHI v27 hs, pack (nest EI hs (byo N arcs i))]) (0, List.replicate N.toNat (none, 0, 0)) ⟨rfl, rfl, rfl, rfl, rfl, rfl, trivial⟩ ⟨Nat.zero_le _, List.length_replicate, (Sn.take 6)⟩ ?_
      rintro ⟨i, hs⟩ ρ w1a ⟨hi, hhl, S1a⟩ IHa
      refine r_seq ?_
      refine r_region ?_
      refine l_x rfl (x_lss rfl rfl) ?_
      refine l_nil ?_
      refine r_seq ?_
      refine r_ifd rfl (fun hc42 => ?_) (fun hc42 => ?_)
      · skip
        obtain ⟨a, ha⟩ : ∃ a, arcs[i]? = some a := ⟨_, List.getElem?_eq_getElem (by omega)⟩
        have hok := hV.at ha
        obtain ⟨h0, hh⟩ : ∃ h0, hs[a.src.toNat]? = some h0 := ⟨_, List.getElem?_eq_getElem (by omega)⟩
        refine r_skip ?_
        refine r_seq ?_
        refine r_block ?_
        refine r_seq ?_
        refine r_region ?_
        refine l_x rfl (x_mv rfl) ?_
        refine l_index EA rfl (hA.le S1a.le) rfl rfl Try.runUnderlying22 Try.sizeOf39 (by omega) ha ?_
        intro b29 o30 hat31 row32
        refine l_x rfl (x_load rfl (ld_row Try.isAgg39 Try.sizeOf39 rfl row32)) ?_
        refine l_alloc S1a rfl Try.zeroValue39 rfl ?_
        intro b36 w33 S34 hl35
        refine l_x rfl (x_as rfl) ?_
        refine l_stores S34 6 rfl rfl rfl rfl (EA.one _) Try.sizeOf39 (by first | exact Nat.le_refl _ | simp) (splice_all rfl) ?_
        intro w37 S38 hk39
        refine l_nil ?_
        refine r_drawE 11 (Rsc.fp (pack (nest EI hs (byo N arcs i)))) Try.mixed (by kernel_rfl) ?_
        intro w40 hl41
        have S42 := S38.step hl41
        refine e_exact 0 _ (by kernel_rfl) rfl rfl (by kernel_rfl) rfl (ex_x rfl (fun w1 h1 => x_mv rfl)) ?_
        refine e_exact 1 _ (by kernel_rfl) rfl rfl (by kernel_rfl) rfl (ex_x rfl (fun w1 h1 => x_fieldAddr rfl Try.runUnderlying39 rfl Try.sizeOf3 (by decide))) ?_
        refine e_exact 2 _ (by kernel_rfl) rfl rfl (by kernel_rfl) rfl (ex_x rfl (fun w1 h1 => x_load rfl (ld_blk ((S42.under 5 rfl h1).blk 6 rfl) Try.isAgg3 rfl))) ?_
        refine e_exact 3 _ (by kernel_rfl) rfl rfl (by kernel_rfl) rfl (ex_x rfl (fun w1 h1 => x_mv rfl)) ?_
        refine e_exact 4 _ (by kernel_rfl) rfl rfl (by kernel_rfl) rfl (ex_x rfl (fun w1 h1 => x_fieldAddr rfl Try.runUnderlying39 rfl Try.sizeOf3 (by decide))) ?_
        refine e_exact 5 _ (by kernel_rfl) rfl rfl (by kernel_rfl) rfl (ex_x rfl (fun w1 h1 => x_load rfl (ld_blk ((S42.under 5 rfl h1).blk 6 rfl) Try.isAgg3 rfl))) ?_
        refine e_index EHI 6 (by kernel_rfl) rfl rfl (by kernel_rfl) rfl rfl (vec_rd (S42.at 4 rfl)) rfl rfl Try.runUnderlying119 Try.sizeOf25 (by omega) hh ?_
        intro b43 o44 hat45
        refine e_exact 7 _ (by kernel_rfl) rfl rfl (by kernel_rfl) rfl (ex_x rfl (fun w1 h1 => x_load rfl (ld_cell Try.isAgg25 ((rd_row (vec_rd ((S42.under 5 rfl h1).at 4 rfl)) hat45 hh) 0 _ rfl)))) ?_
        refine e_exact 8 _ (by kernel_rfl) rfl rfl (by kernel_rfl) rfl (ex_x rfl (fun w1 h1 => x_mv rfl)) ?_
        refine e_next [9] (by kernel_rfl) (by kernel_rfl) ⟨⟨_, _, rfl, rfl, ?_⟩, trivial⟩
        refine s_buildSlice EI [(i : Int)] S42 rfl Try.runUnderlying25 Try.sizeOf3 Try.zeroValue3 rfl ⟨rfl, rfl, trivial⟩ (by decide) ?_
        intro v49 w46 S47 hl48
        refine ⟨.of_le hl48, ?_⟩
        refine e_next [10] (by kernel_rfl) (by kernel_rfl) ⟨⟨_, _, rfl, rfl, ?_⟩, trivial⟩
        have S50 := (S47.lend 5 rfl).open
        refine s_append EI S50 a.src.toNat (nest_get hh (byo_get (by omega))) rfl rfl rfl (vec_rd (S47.at 7 rfl)) Try.underlying25 info3 rfl rfl rfl (by have := outsUp_len (arcs := arcs) (k := i) (v := a.src.toNat); unfold maxLen; rw [List.length_singleton]; omega) (by have := outsUp_len (arcs := arcs) (k := i) (v := a.src.toNat); rw [List.length_singleton]; show _ * 8 ≤ _; omega) ?_
        intro v51 w52 S53 hk54 hv55
        obtain ⟨b56, c57, rfl⟩ := hv55 (by simp)
        have S58 := S47.back 5 rfl S53.close
        refine ⟨hk54.mono fun _ _ hb => ⟨_, List.mem_of_getElem? (nest_get hh (byo_get (by omega))), hb⟩, ?_⟩
        refine e_done (by kernel_rfl) ?_
        refine l_index EHI rfl (vec_rd (S58.at 4 rfl)) rfl rfl Try.runUnderlying119 Try.sizeOf25 (by omega) hh ?_
        intro b59 o60 hat61 row62
        refine l_storev1 (a' := (some ⟨b56, 0, none⟩, (outsUp arcs i a.src.toNat).length + [(i : Int)].length, c57)) (f := 0) S58 4 rfl rfl hat61 rfl rfl rfl Try.sizeOf25 hh (by decide) rfl ?_
        intro w63 S64 hk65
        refine l_nil ?_
        refine r_inBlock ?_
        refine r_region ?_
        refine l_x rfl (x_add rfl rfl (by omega)) ?_
        refine l_x rfl (x_mv rfl) ?_
        refine l_nil ?_
        exact IHa (i + 1, hs.set a.src.toNat (some ⟨b56, 0, none⟩, (outsUp arcs i a.src.toNat).length + [(i : Int)].length, c57)) _ _ (by dsimp only; omega) ⟨rfl, rfl, rfl, rfl, rfl, rfl, trivial⟩ ⟨by omega, by rw [List.length_set]; exact hhl, (by rw [← byo_step ha (by omega), ← nest_set]; exact S64.take 6)⟩
      · skip
        have hie : i = arcs.length := by omega
        subst hie
        refine r_exit rfl ?_
        refine r_seq ?_
        refine r_region ?_
        refine l_x rfl (x_as rfl) ?_
        have S66 := S1a.nilvec (E := EC)
        have S67 := S66.nest EI 0
        refine l_nil ?_
        refine r_seq ?_
        refine r_seq ?_
        refine r_region ?_
        refine l_x rfl (x_fieldAddr rfl Try.runUnderlying24 rfl Try.sizeOf22 (by decide)) ?_
        refine l_x rfl (x_load rfl (ld_blk (S67.blk 0 rfl) Try.isAgg22 rfl)) ?_
        refine l_x rfl (x_len (hA.le S67.le) rfl Try.runUnderlying22) ?_
        refine l_x rfl (x_mv rfl) ?_
        refine l_nil ?_
        refine r_block ?_
        refine r_loop (G := Nat × List Int × Value × List (Hd × Int) × List Crc) (fun ⟨i, L, vo, ds, zs⟩ => arcs.length - i) (fun ⟨i, L, vo, ds, zs⟩ => [(2, .pointer (some ⟨b4, 0, none⟩)), (7, .pointer (some ⟨b20, 0, none⟩)), (8, v27), (11, vo), (61, .int .i64 arcs.length), (62, .int .i64 i)]) (fun ⟨i, L, vo, ds, zs⟩ w' => (i ≤ arcs.length) ∧ (Took arcs x L zs) ∧ (∀ j, j < i → ¬ 0 < nth L j) ∧ (Fit ds zs) ∧ Own nob w w' [blk b4 [.int .i64 N, va] 24, blk b8 [vx] 25, vec EI v3415 L, blk b20 [v3415] 25, vec EHI v27 hs, pack (nest EI hs (byo N arcs arcs.length)), vec EC vo ds, pack (nest EI (ds.map (·.1)) (zs.map (·.1)))]) (0, x, .slice none 0 0, [], []) ⟨rfl, rfl, rfl, rfl, rfl, rfl, trivial⟩ ⟨Nat.zero_le _, .start hcx hV, (fun j h => absurd h (Nat.not_lt_zero j)), .nil, (S67.take 8)⟩ ?_
        rintro ⟨i, L, vo, ds, zs⟩ ρ w1b ⟨hi, hT, hz, hF, S1b⟩ IHb
        refine r_seq ?_
        refine r_region ?_
        refine l_x rfl (x_lss rfl rfl) ?_
        refine l_nil ?_
        refine r_seq ?_
        refine r_ifd rfl (fun hc63 => ?_) (fun hc63 => ?_)
        · skip
          obtain ⟨a0, ha0⟩ : ∃ a, arcs[i]? = some a := ⟨_, List.getElem?_eq_getElem (by omega)⟩
          have hil : i < arcs.length := by omega
          have hok0 := hV.at ha0
          refine r_skip ?_
          refine r_seq ?_
          refine r_block ?_
          refine r_seq ?_
          refine r_region ?_
          refine l_x rfl (x_mv rfl) ?_
          refine l_x rfl (x_as rfl) ?_
          refine l_nil ?_
          refine r_scope ?_
          refine r_seq ?_
          refine r_label ?_
          refine r_block ?_
          refine r_loop (G := List Int × Value × List (Hd × Int) × List Crc) (fun ⟨L, vo, ds, zs⟩ => left L) (fun ⟨L, vo, ds, zs⟩ => [(2, .pointer (some ⟨b4, 0, none⟩)), (7, .pointer (some ⟨b20, 0, none⟩)), (8, v27), (11, vo), (61, .int .i64 arcs.length), (62, .int .i64 i), (12, .int .i64 i)]) (fun ⟨L, vo, ds, zs⟩ w' => (Took arcs x L zs) ∧ (∀ j, j < i → ¬ 0 < nth L j) ∧ (Fit ds zs) ∧ Own nob w w' [blk b4 [.int .i64 N, va] 24, blk b8 [vx] 25, vec EI v3415 L, blk b20 [v3415] 25, vec EHI v27 hs, pack (nest EI hs (byo N arcs arcs.length)), vec EC vo ds, pack (nest EI (ds.map (·.1)) (zs.map (·.1)))]) (L, vo, ds, zs) ⟨rfl, rfl, rfl, rfl, rfl, rfl, rfl, trivial⟩ ⟨hT, hz, hF, (S1b.take 8)⟩ ?_
          rintro ⟨L, vo, ds, zs⟩ ρ w1c ⟨hT, hz, hF, S1c⟩ IHc
          refine r_seq ?_
          refine r_seq ?_
          refine r_region ?_
          refine l_x rfl (x_load rfl (ld_blk (S1c.blk 3 rfl) Try.isAgg25 rfl)) ?_
          refine l_x rfl (x_mv rfl) ?_
          refine l_index EI rfl (vec_rd (S1c.at 2 rfl)) rfl rfl Try.runUnderlying25 Try.sizeOf3 (by omega) (nth_get (by have := hT.bal.len; omega)) ?_
          intro b68 o69 hat70 row71
          refine l_x rfl (x_load rfl (ld_cell Try.isAgg3 (row71 0 _ rfl))) ?_
          refine l_x rfl (x_gtr rfl rfl) ?_
          refine l_nil ?_
          refine r_ifd rfl (fun hc69 => ?_) (fun hc69 => ?_)
          · skip
            refine r_skip ?_
            refine r_block ?_
            refine r_seq ?_
            refine r_region ?_
            refine l_buildSlice EI [-1] S1c rfl Try.runUnderlying25 Try.sizeOf3 Try.zeroValue3 rfl ⟨rfl, rfl, trivial⟩ (Nat.le_of_ble_eq_true rfl) ?_
            intro v75 w72 S73 hl74
            refine l_x rfl (x_fieldAddr rfl Try.runUnderlying24 rfl Try.sizeOf3 (by decide)) ?_
            refine l_x rfl (x_load rfl (ld_blk (S73.blk 0 rfl) Try.isAgg3 rfl)) ?_
            refine l_call [] [] [_, _] rfl rfl Try.call116 rfl (c_Repeat _ (-1) _ ⟨by omega, by omega⟩ _ (vec_rd (S73.at 8 rfl))) ?_
            rintro v7376 w76 ⟨hN7376, hl7376⟩
            have S77 := S73.add hl7376 hN7376
            refine l_x rfl (x_as rfl) ?_
            refine l_nil ?_
            refine r_seq ?_
            refine r_region ?_
            refine l_x rfl (x_as rfl) ?_
            have S78 := S77.nilvec (E := EI)
            refine l_nil ?_
            refine r_seq ?_
            refine r_region ?_
            refine l_x rfl (x_fieldAddr rfl Try.runUnderlying24 rfl Try.sizeOf22 (by decide)) ?_
            refine l_x rfl (x_load rfl (ld_blk (S78.blk 0 rfl) Try.isAgg22 rfl)) ?_
            refine l_x rfl (x_mv rfl) ?_
            refine l_index EA rfl (hA.le S78.le) rfl rfl Try.runUnderlying22 Try.sizeOf39 (by omega) ha0 ?_
            intro b79 o80 hat81 row82
            refine l_x rfl (x_fieldAddr rfl Try.runUnderlying39 rfl Try.sizeOf3 (by decide)) ?_
            refine l_x rfl (x_load rfl (ld_cell Try.isAgg3 (row82 0 _ rfl))) ?_
            refine l_x rfl (x_as rfl) ?_
            refine l_nil ?_
            refine r_block ?_
            refine r_loop (G := List Int × Value × List Int × Int) (fun ⟨place, vw, way, v⟩ => place.count (-1)) (fun ⟨place, vw, way, v⟩ => [(2, .pointer (some ⟨b4, 0, none⟩)), (7, .pointer (some ⟨b20, 0, none⟩)), (8, v27), (11, vo), (61, .int .i64 arcs.length), (62, .int .i64 i), (12, .int .i64 i), (13, v7376), (14, vw), (15, .int .i64 v)]) (fun ⟨place, vw, way, v⟩ w' => (Flow.Way N arcs L i place way v) ∧ Own nob w w' [blk b4 [.int .i64 N, va] 24, blk b8 [vx] 25, vec EI v3415 L, blk b20 [v3415] 25, vec EHI v27 hs, pack (nest EI hs (byo N arcs arcs.length)), vec EC vo ds, pack (nest EI (ds.map (·.1)) (zs.map (·.1))), vec EI v7376 place, vec EI vw way]) (List.replicate N.toNat (-1), .slice none 0 0, [], a0.src) ⟨rfl, rfl, rfl, rfl, rfl, rfl, rfl, rfl, rfl, rfl, trivial⟩ ⟨.start hV ha0, (S78.pick [0, 1, 2, 3, 4, 5, 6, 7, 9, 10] (by decide) rfl)⟩ ?_
            rintro ⟨place, vw, way, v⟩ ρ w1d ⟨hW, S1d⟩ IHd
            obtain ⟨p, hp⟩ : ∃ p, place[v.toNat]? = some p := ⟨_, List.getElem?_eq_getElem (by have := hW.node; have := hW.len; omega)⟩
            have hnd := hW.node
            refine r_block ?_
            refine r_seq ?_
            refine r_seq ?_
            refine r_region ?_
            refine l_x rfl (x_mv rfl) ?_
            refine l_x rfl (x_mv rfl) ?_
            refine l_index EI rfl (vec_rd (S1d.at 8 rfl)) rfl rfl Try.runUnderlying25 Try.sizeOf3 (by omega) hp ?_
            intro b83 o84 hat85 row86
            refine l_x rfl (x_load rfl (ld_cell Try.isAgg3 (row86 0 _ rfl))) ?_
            refine l_x rfl (x_geq rfl rfl) ?_
            refine l_nil ?_
            refine r_ifd rfl (fun hc84 => ?_) (fun hc84 => ?_)
            · skip
              refine r_seq ?_
              have hwl := hW.len_le hV
              have hcp := fun m hm => hW.circle (m := m) hV hp hc84 hm
              obtain ⟨i0, hi0⟩ : ∃ i0, (way.drop p.toNat)[0]? = some i0 := ⟨_, List.getElem?_eq_getElem (hcp 1 (by omega)).ne⟩
              have hpos0 : ∀ q ∈ (way.drop p.toNat), 0 ≤ q ∧ q < arcs.length ∧ 0 < nth L q.toNat := fun q hq => hW.pos q (List.mem_of_mem_drop hq)
              have hi0b := hpos0 i0 (List.mem_of_getElem? hi0)
              have hLl := hT.bal.len
              have hdl : (way.drop p.toNat).length ≤ way.length := by rw [List.length_drop]; omega
              have hpl : p.toNat < way.length := by have h9 := (hcp 1 (by omega)).ne; simp only [List.length_drop] at h9; omega
              refine r_region ?_
              refine l_x rfl (x_mv rfl) ?_
              refine l_x rfl (x_mv rfl) ?_
              refine l_x rfl (x_mv rfl) ?_
              refine l_index EI rfl (vec_rd (S1d.at 8 rfl)) rfl rfl Try.runUnderlying25 Try.sizeOf3 (by omega) hp ?_
              intro b87 o88 hat89 row90
              refine l_x rfl (x_load rfl (ld_cell Try.isAgg3 (row90 0 _ rfl))) ?_
              refine l_tail S1d 9 rfl rfl rfl rfl Try.runUnderlying25 Try.sizeOf3 (by omega) ?_
              intro v91 ht92
              refine l_call [] [] [_] rfl rfl Try.call115 rfl (c_copiedI _ _ (by rw [List.length_drop]; omega) _ (tail_rd ht92 (S1d.at 9 rfl))) ?_
              rintro v9193 w93 ⟨hN9193, hl9193⟩
              obtain ⟨d9193, rfl⟩ := rd_hv (vec_rd hN9193.ok)
              have S94 := S1d.add hl9193 hN9193
              refine l_x rfl (x_as rfl) ?_
              refine l_nil ?_
              refine r_seq ?_
              refine r_drawE 10 (yng w93) Try.mixed (by kernel_rfl) ?_
              intro w95 hl96
              have S97 := S94.step hl96
              have hy98 : Keep (yng w93) w93 w95 := .of_le hl96
              refine e_exact 0 _ (by kernel_rfl) rfl rfl (by kernel_rfl) rfl (ex_x rfl (fun w1 h1 => x_mv rfl)) ?_
              refine e_exact 1 _ (by kernel_rfl) rfl rfl (by kernel_rfl) rfl (ex_x rfl (fun w1 h1 => x_load rfl (ld_blk ((S94.yng (hy98.trans h1)).blk 3 rfl) Try.isAgg25 rfl))) ?_
              refine e_exact 2 _ (by kernel_rfl) rfl rfl (by kernel_rfl) rfl (ex_x rfl (fun w1 h1 => x_mv rfl)) ?_
              refine e_index EI 3 (by kernel_rfl) rfl rfl (by kernel_rfl) rfl rfl (vec_rd (S97.at 10 rfl)) rfl rfl Try.runUnderlying25 Try.sizeOf3 (by omega) hi0 ?_
              intro b99 o100 hat101
              refine e_exact 4 _ (by kernel_rfl) rfl rfl (by kernel_rfl) rfl (ex_x rfl (fun w1 h1 => x_load rfl (ld_cell Try.isAgg3 ((rd_row (vec_rd ((S94.yng (hy98.trans h1)).at 10 rfl)) hat101 hi0) 0 _ rfl)))) ?_
              refine e_index EI 5 (by kernel_rfl) rfl rfl (by kernel_rfl) rfl rfl (vec_rd (S97.at 2 rfl)) rfl rfl Try.runUnderlying25 Try.sizeOf3 (by omega) (nth_get (by omega)) ?_
              intro b102 o103 hat104
              refine e_exact 6 _ (by kernel_rfl) rfl rfl (by kernel_rfl) rfl (ex_x rfl (fun w1 h1 => x_load rfl (ld_cell Try.isAgg3 ((rd_row (vec_rd ((S94.yng (hy98.trans h1)).at 2 rfl)) hat104 (nth_get (by omega))) 0 _ rfl)))) ?_
              refine e_exact 7 _ (by kernel_rfl) rfl rfl (by kernel_rfl) rfl (ex_x rfl (fun w1 h1 => x_buildS (out := [_, _]) (ss := [1, 1]) Try.zeroValue75 rfl Try.runUnderlying75 ⟨Try.sizeOf25, Try.sizeOf3, trivial⟩ (fill_cons rfl (Rd.cells (vec_rd (S97.at 10 rfl))) rfl (Nat.le_of_ble_eq_true rfl) (fill_cons rfl rfl rfl (Nat.le_of_ble_eq_true rfl) fill_nil)))) ?_
              refine e_next [8] (by kernel_rfl) (by kernel_rfl) ⟨⟨_, _, rfl, rfl, ?_⟩, trivial⟩
              refine s_allocY S97 rfl Try.zeroValue75 rfl ?_
              intro b108 w105 S106 hl107 hb109
              refine ⟨.of_le hl107, ?_⟩
              have hy110 : Keep (yng w93) w93 w105 := hy98.trans (Keep.of_le hl107)
              refine e_next [9] (by kernel_rfl) (by kernel_rfl) ⟨⟨_, _, rfl, rfl, ?_⟩, trivial⟩
              refine s_stores (vs := [_, _]) S106 11 rfl rfl rfl rfl (ones_cons (Rd.one (vec_rd (S106.at 10 rfl))) (ones_cons rfl ones_nil)) Try.sizeOf75 (by first | exact Nat.le_refl _ | simp) (splice_all rfl) ?_
              intro w111 S112 hk113
              refine ⟨(yng_blk hy98 hb109 hk113), ?_⟩
              have hy114 : Keep (yng w93) w93 w111 := hy110.trans ((yng_blk hy98 hb109 hk113))
              refine e_done (by kernel_rfl) ?_
              refine l_nil ?_
              refine r_seq ?_
              refine r_seq ?_
              refine r_region ?_
              refine l_x rfl (x_mv rfl) ?_
              refine l_x rfl (x_len (vec_rd (S112.at 10 rfl)) rfl Try.runUnderlying25) ?_
              refine l_x rfl (x_mv rfl) ?_
              refine l_nil ?_
              refine r_block ?_
              refine r_loop (G := Nat) (fun k => (way.drop p.toNat).length - k) (fun k => [(2, .pointer (some ⟨b4, 0, none⟩)), (7, .pointer (some ⟨b20, 0, none⟩)), (8, v27), (11, vo), (61, .int .i64 arcs.length), (62, .int .i64 i), (12, .int .i64 i), (16, (hv d9193)), (17, .pointer (some ⟨b108, 0, none⟩)), (100, (hv d9193)), (101, .int .i64 (way.drop p.toNat).length), (102, .int .i64 k)]) (fun k w' => (k ≤ (way.drop p.toNat).length) ∧ Own nob w w' [blk b4 [.int .i64 N, va] 24, blk b8 [vx] 25, vec EI v3415 L, blk b20 [v3415] 25, vec EHI v27 hs, pack (nest EI hs (byo N arcs arcs.length)), vec EC vo ds, pack (nest EI (ds.map (·.1)) (zs.map (·.1))), vec EI v7376 place, vec EI vw way, vec EI (hv d9193) (way.drop p.toNat), blk b108 [(hv d9193), .int .i64 (least L (nth L i0.toNat) ((way.drop p.toNat).take k))] 75]) 0 ⟨rfl, rfl, rfl, rfl, rfl, rfl, rfl, rfl, rfl, rfl, rfl, rfl, trivial⟩ ⟨Nat.zero_le _, (by rw [least_zero]; exact S112)⟩ ?_
              rintro k ρ w1e ⟨hk, S1e⟩ IHe
              refine r_seq ?_
              refine r_region ?_
              refine l_x rfl (x_lss rfl rfl) ?_
              refine l_nil ?_
              refine r_seq ?_
              refine r_ifd rfl (fun hc103 => ?_) (fun hc103 => ?_)
              · skip
                obtain ⟨q, hq⟩ : ∃ q, (way.drop p.toNat)[k]? = some q := ⟨_, List.getElem?_eq_getElem (by omega)⟩
                have hqb := hpos0 q (List.mem_of_getElem? hq)
                refine r_skip ?_
                refine r_seq ?_
                refine r_block ?_
                refine r_seq ?_
                refine r_region ?_
                refine l_index EI rfl (vec_rd (S1e.at 10 rfl)) rfl rfl Try.runUnderlying25 Try.sizeOf3 (by omega) hq ?_
                intro b115 o116 hat117 row118
                refine l_x rfl (x_load rfl (ld_cell Try.isAgg3 (row118 0 _ rfl))) ?_
                refine l_x rfl (x_as rfl) ?_
                refine l_nil ?_
                refine r_drawR 8 Try.mixed (by kernel_rfl) ?_
                refine w_x rfl (fun w1 h1 => x_fieldAddr rfl Try.runUnderlying75 rfl Try.sizeOf3 (by decide)) ?_
                refine w_x rfl (fun w1 h1 => x_load rfl (ld_blk ((S1e.step h1).blk 11 rfl) Try.isAgg3 rfl)) ?_
                refine w_x rfl (fun w1 h1 => x_load rfl (ld_blk ((S1e.step h1).blk 3 rfl) Try.isAgg25 rfl)) ?_
                refine w_x rfl (fun w1 h1 => x_mv rfl) ?_
                refine w_index EI rfl (vec_rd (S1e.at 2 rfl)) rfl rfl Try.runUnderlying25 Try.sizeOf3 (by omega) (nth_get (by omega)) ?_
                intro b119 o120 hat121 row122
                refine w_x rfl (fun w1 h1 => x_load rfl (ld_cell Try.isAgg3 ((row122.le h1) 0 _ rfl))) ?_
                refine w_x rfl (fun w1 h1 => x_min rfl rfl) ?_
                refine w_x rfl (fun w1 h1 => x_fieldAddr rfl Try.runUnderlying75 rfl Try.sizeOf3 (by decide)) ?_
                refine w_nil ?_
                intro w123 hl124
                have S125 := S1e.step hl124
                refine l_storeq (c' := [_, _]) S125 11 rfl rfl rfl rfl rfl Try.sizeOf3 (by simp) rfl ?_
                intro w126 S127 hk128
                refine l_nil ?_
                refine r_inBlock ?_
                refine r_region ?_
                refine l_x rfl (x_add rfl rfl (by omega)) ?_
                refine l_x rfl (x_mv rfl) ?_
                refine l_nil ?_
                exact IHe (k + 1) _ _ (by omega) ⟨rfl, rfl, rfl, rfl, rfl, rfl, rfl, rfl, rfl, rfl, rfl, rfl, trivial⟩ ⟨by omega, (by rw [least_take hq]; exact S127)⟩
              · skip
                have hke : k = (way.drop p.toNat).length := by omega
                subst hke
                obtain ⟨hMle, hMl, _⟩ := least_le (x := L) (way.drop p.toNat) (nth L i0.toNat)
                have hMe := least_in (x := L) hi0
                have hMp := least_pos (x := L) (way.drop p.toNat) (nth L i0.toNat) (by omega) (fun q hq => (hpos0 q hq).2.2)
                have hn0 := hT.bal.nn i0.toNat _ (nth_get (by omega))
                have hCm := hcp (least L (nth L i0.toNat) (way.drop p.toNat)) ⟨hMp, by omega⟩
                rw [List.take_length] at S1e
                refine r_exit rfl ?_
                refine r_seq ?_
                refine r_seq ?_
                refine r_region ?_
                refine l_x rfl (x_mv rfl) ?_
                refine l_x rfl (x_len (vec_rd (S1e.at 10 rfl)) rfl Try.runUnderlying25) ?_
                refine l_x rfl (x_mv rfl) ?_
                refine l_nil ?_
                refine r_block ?_
                refine r_loop (G := Nat) (fun k => (way.drop p.toNat).length - k) (fun k => [(2, .pointer (some ⟨b4, 0, none⟩)), (7, .pointer (some ⟨b20, 0, none⟩)), (8, v27), (11, vo), (61, .int .i64 arcs.length), (62, .int .i64 i), (12, .int .i64 i), (17, .pointer (some ⟨b108, 0, none⟩)), (115, (hv d9193)), (116, .int .i64 (way.drop p.toNat).length), (117, .int .i64 k)]) (fun k w' => (k ≤ (way.drop p.toNat).length) ∧ Own nob w w' [blk b4 [.int .i64 N, va] 24, blk b8 [vx] 25, vec EI v3415 (subl L ((way.drop p.toNat).take k) (least L (nth L i0.toNat) (way.drop p.toNat))), blk b20 [v3415] 25, vec EHI v27 hs, pack (nest EI hs (byo N arcs arcs.length)), vec EC vo ds, pack (nest EI (ds.map (·.1)) (zs.map (·.1))), vec EI v7376 place, vec EI vw way, vec EI (hv d9193) (way.drop p.toNat), blk b108 [(hv d9193), .int .i64 (least L (nth L i0.toNat) (way.drop p.toNat))] 75]) 0 ⟨rfl, rfl, rfl, rfl, rfl, rfl, rfl, rfl, rfl, rfl, rfl, trivial⟩ ⟨Nat.zero_le _, (by rw [subl_zero]; exact S1e)⟩ ?_
                rintro k ρ w1f ⟨hk, S1f⟩ IHf
                refine r_seq ?_
                refine r_region ?_
                refine l_x rfl (x_lss rfl rfl) ?_
                refine l_nil ?_
                refine r_seq ?_
                refine r_ifd rfl (fun hc118 => ?_) (fun hc118 => ?_)
                · skip
                  obtain ⟨q, hq⟩ : ∃ q, (way.drop p.toNat)[k]? = some q := ⟨_, List.getElem?_eq_getElem (by omega)⟩
                  have hqb := hpos0 q (List.mem_of_getElem? hq)
                  have hqn := hT.bal.nn q.toNat _ (nth_get (by omega))
                  have hsn := subl_nth hCm hT.bal.len k (by simp only; omega) q.toNat
                  rw [if_neg (by rw [show ((q.toNat : Nat) : Int) = q by omega]; exact hCm.fresh hq)] at hsn
                  simp only at hsn
                  refine r_skip ?_
                  refine r_seq ?_
                  refine r_block ?_
                  refine r_seq ?_
                  refine r_region ?_
                  refine l_index EI rfl (vec_rd (S1f.at 10 rfl)) rfl rfl Try.runUnderlying25 Try.sizeOf3 (by omega) hq ?_
                  intro b129 o130 hat131 row132
                  refine l_x rfl (x_load rfl (ld_cell Try.isAgg3 (row132 0 _ rfl))) ?_
                  refine l_x rfl (x_as rfl) ?_
                  refine l_nil ?_
                  refine r_drawR 8 Try.mixed (by kernel_rfl) ?_
                  refine w_x rfl (fun w1 h1 => x_load rfl (ld_blk ((S1f.step h1).blk 3 rfl) Try.isAgg25 rfl)) ?_
                  refine w_x rfl (fun w1 h1 => x_mv rfl) ?_
                  refine w_index EI rfl (vec_rd (S1f.at 2 rfl)) rfl rfl Try.runUnderlying25 Try.sizeOf3 (by omega) (nth_get (by rw [subl_len]; omega)) ?_
                  intro b133 o134 hat135 row136
                  refine w_x rfl (fun w1 h1 => x_load rfl (ld_cell Try.isAgg3 ((row136.le h1) 0 _ rfl))) ?_
                  refine w_x rfl (fun w1 h1 => x_fieldAddr rfl Try.runUnderlying75 rfl Try.sizeOf3 (by decide)) ?_
                  refine w_x rfl (fun w1 h1 => x_load rfl (ld_blk ((S1f.step h1).blk 11 rfl) Try.isAgg3 rfl)) ?_
                  refine w_x rfl (fun w1 h1 => x_sub rfl rfl (by omega)) ?_
                  refine w_index EI rfl (vec_rd (S1f.at 2 rfl)) rfl rfl Try.runUnderlying25 Try.sizeOf3 (by omega) (nth_get (by rw [subl_len]; omega)) ?_
                  intro b137 o138 hat139 row140
                  refine w_nil ?_
                  intro w141 hl142
                  have S143 := S1f.step hl142
                  refine l_storevi (f := 0) S143 2 rfl rfl hat139 rfl rfl Try.sizeOf3 (nth_get (by rw [subl_len]; omega)) (by decide) rfl ?_
                  intro w144 S145 hk146
                  refine l_nil ?_
                  refine r_inBlock ?_
                  refine r_region ?_
                  refine l_x rfl (x_add rfl rfl (by omega)) ?_
                  refine l_x rfl (x_mv rfl) ?_
                  refine l_nil ?_
                  exact IHf (k + 1) _ _ (by omega) ⟨rfl, rfl, rfl, rfl, rfl, rfl, rfl, rfl, rfl, rfl, rfl, trivial⟩ ⟨by omega, (by rw [subl_take hq]; exact S145)⟩
                · skip
                  have hke : k = (way.drop p.toNat).length := by omega
                  subst hke
                  rw [List.take_length] at S1f
                  refine r_exit rfl ?_
                  refine r_seq ?_
                  refine r_region ?_
                  refine l_x rfl (x_mv rfl) ?_
                  refine l_x rfl (x_load rfl (ld_blks (S1f.blk 11 rfl) Try.isAgg75 Try.sizeOf75 rfl rfl)) ?_
                  refine l_buildSlice EC [(d9193, (least L (nth L i0.toNat) (way.drop p.toNat)))] S1f rfl Try.runUnderlying73 Try.sizeOf75 Try.zeroValue75 rfl ⟨rfl, rfl, trivial⟩ (Nat.le_of_ble_eq_true rfl) ?_
                  intro v150 w147 S148 hl149
                  refine l_append EC S148 6 rfl rfl rfl rfl (vec_rd (S148.at 12 rfl)) Try.underlying73 info75 rfl rfl rfl (by have := hT.few; have := left_le x; have := hF.len; unfold maxLen; rw [List.length_singleton]; omega) (by have := hT.few; have := left_le x; have := hF.len; rw [List.length_singleton]; show _ * 32 ≤ _; omega) ?_
                  intro v154 w151 S152 hk153 hv155
                  refine l_x rfl (x_as rfl) ?_
                  have S156 := S152.nilvec (E := EC)
                  have S157 := S156.nest EI 0
                  refine l_nil ?_
                  refine r_exit rfl ?_
                  have Sp := S157.pick (L' := [_, _, _, _, _, _, _, _, _]) [0, 1, 2, 3, 4, 5, 6, 7, 10] (by decide) rfl
                  have Sq := Own.packSnoc (A := [_, _, _, _, _, _, _]) Sp
                  rw [nest_cirs (m := (least L (nth L i0.toNat) (way.drop p.toNat))) hF] at Sq
                  have hL1 := subl_left hCm hT.bal hMe
                  have hT2 := hT.step hCm hMl hMe
                  exact IHc (subl L (way.drop p.toNat) (least L (nth L i0.toNat) (way.drop p.toNat)), v154, ds ++ [(d9193, (least L (nth L i0.toNat) (way.drop p.toNat)))], zs ++ [((way.drop p.toNat), (least L (nth L i0.toNat) (way.drop p.toNat)))]) _ _ (by dsimp only; exact hL1) ⟨rfl, rfl, rfl, rfl, rfl, rfl, rfl, trivial⟩ ⟨hT2, fun j hj hh => hz j hj (Int.lt_of_lt_of_le hh (subl_le hCm hT.bal.len j)), hF.snoc, Sq⟩
            · skip
              have hp1 : p = -1 := by rcases hW.at' v.toNat p hp with e | ⟨_, _, e, _⟩ <;> omega
              subst hp1
              obtain ⟨h0', hh⟩ : ∃ h0, hs[v.toNat]? = some h0 := ⟨_, List.getElem?_eq_getElem (by have := hW.node; omega)⟩
              have hg := byo_get (N := N) (arcs := arcs) (k := arcs.length) (v := v.toNat) (by have := hW.node; omega)
              refine r_skip ?_
              refine r_seq ?_
              refine r_region ?_
              refine l_x rfl (x_mv rfl) ?_
              refine l_x rfl (x_mv rfl) ?_
              refine l_x rfl (x_mv rfl) ?_
              refine l_x rfl (x_len (vec_rd (S1d.at 9 rfl)) rfl Try.runUnderlying25) ?_
              refine l_index EI rfl (vec_rd (S1d.at 8 rfl)) rfl rfl Try.runUnderlying25 Try.sizeOf3 (by omega) hp ?_
              intro b158 o159 hat160 row161
              refine l_storevi (f := 0) S1d 8 rfl rfl hat160 rfl rfl Try.sizeOf3 hp (by decide) rfl ?_
              intro w162 S163 hk164
              refine l_nil ?_
              refine r_seq ?_
              refine r_region ?_
              refine l_x rfl (x_mv rfl) ?_
              refine l_x rfl (x_mv rfl) ?_
              refine l_index EHI rfl (vec_rd (S163.at 4 rfl)) rfl rfl Try.runUnderlying119 Try.sizeOf25 (by omega) hh ?_
              intro b165 o166 hat167 row168
              refine l_x rfl (x_load rfl (ld_cell Try.isAgg25 (row168 0 _ rfl))) ?_
              refine l_x rfl (x_func rfl rfl) ?_
              refine l_call [] [] [_, _] rfl rfl Try.call117 rfl (c_IndexFuncInt _ (outsUp arcs arcs.length v.toNat) (fun z => decide (0 < nth L z.toNat)) 118 [.pointer (some ⟨b20, 0, none⟩)] (by have := outsUp_len (arcs := arcs) (k := arcs.length) (v := v.toNat); omega) _ (nest_rd (S163.at 5 rfl) hh hg) Try.call118 (fun z hz w1 h1 => c_Circles2 _ L z _ (by obtain ⟨g1, g2, _⟩ := mem_outs hz; have := hT.bal.len; exact ⟨g1, by omega⟩) w1 ((S163.blk 3 rfl).keep h1 id) ((vec_rd (S163.at 2 rfl)).le h1))) ?_
              rintro _ w169 ⟨rfl, hl171⟩
              have S170 := S163.step hl171
              refine l_x rfl (x_as rfl) ?_
              refine l_nil ?_
              refine r_seq ?_
              obtain ⟨qo, hqo, hqp⟩ := hW.on hT.bal hV (hc69 : 0 < nth L i)
              have hne : ¬ idx (fun z : Int => decide (0 < nth L z.toNat)) (outsUp arcs arcs.length v.toNat) = -1 := fun e => by have := idx_neg e qo hqo; simp [hqp] at this
              obtain ⟨ki, q, hki, hkq, hkp, _⟩ := idx_pos hne
              have hkp := of_decide_eq_true hkp
              have hqm := List.mem_of_getElem? hkq
              obtain ⟨hq0, hq1, a, ha, hqs⟩ := mem_outs hqm
              have hok := hV.at ha
              have hwl := hW.len_le hV
              refine r_slot 22 (.int .i64 ki) (congrArg (Value.int .i64) hki) ?_
              refine r_region ?_
              refine l_x rfl (x_mv rfl) ?_
              refine l_x rfl (x_mv rfl) ?_
              refine l_x rfl (x_mv rfl) ?_
              refine l_index EHI rfl (vec_rd (S170.at 4 rfl)) rfl rfl Try.runUnderlying119 Try.sizeOf25 (by omega) hh ?_
              intro b172 o173 hat174 row175
              refine l_x rfl (x_load rfl (ld_cell Try.isAgg25 (row175 0 _ rfl))) ?_
              refine l_x rfl (x_mv rfl) ?_
              refine l_index EI rfl (nest_rd (S170.at 5 rfl) hh hg) rfl rfl Try.runUnderlying25 Try.sizeOf3 (by omega) hkq ?_
              intro b176 o177 hat178 row179
              refine l_x rfl (x_load rfl (ld_cell Try.isAgg3 (row179 0 _ rfl))) ?_
              refine l_buildSlice EI [q] S170 rfl Try.runUnderlying25 Try.sizeOf3 Try.zeroValue3 rfl ⟨rfl, rfl, trivial⟩ (Nat.le_of_ble_eq_true rfl) ?_
              intro v183 w180 S181 hl182
              refine l_append EI S181 9 rfl rfl rfl rfl (vec_rd (S181.at 10 rfl)) Try.underlying25 info3 rfl rfl rfl (by unfold maxLen; rw [List.length_singleton]; omega) (by rw [List.length_singleton]; show _ * 8 ≤ _; omega) ?_
              intro v187 w184 S185 hk186 hv188
              refine l_x rfl (x_as rfl) ?_
              refine l_nil ?_
              refine r_drawR 13 Try.mixed (by kernel_rfl) ?_
              refine w_x rfl (fun w1 h1 => x_fieldAddr rfl Try.runUnderlying24 rfl Try.sizeOf22 (by decide)) ?_
              refine w_x rfl (fun w1 h1 => x_load rfl (ld_blk ((S185.step h1).blk 0 rfl) Try.isAgg22 rfl)) ?_
              refine w_x rfl (fun w1 h1 => x_mv rfl) ?_
              refine w_x rfl (fun w1 h1 => x_mv rfl) ?_
              refine w_index EHI rfl (vec_rd (S185.at 4 rfl)) rfl rfl Try.runUnderlying119 Try.sizeOf25 (by omega) hh ?_
              intro b189 o190 hat191 row192
              refine w_x rfl (fun w1 h1 => x_load rfl (ld_cell Try.isAgg25 ((row192.le h1) 0 _ rfl))) ?_
              refine w_x rfl (fun w1 h1 => x_mv rfl) ?_
              refine w_index EI rfl (nest_rd (S185.at 5 rfl) hh hg) rfl rfl Try.runUnderlying25 Try.sizeOf3 (by omega) hkq ?_
              intro b193 o194 hat195 row196
              refine w_x rfl (fun w1 h1 => x_load rfl (ld_cell Try.isAgg3 ((row196.le h1) 0 _ rfl))) ?_
              refine w_index EA rfl (hA.le S185.le) rfl rfl Try.runUnderlying22 Try.sizeOf39 (by omega) ha ?_
              intro b197 o198 hat199 row200
              refine w_x rfl (fun w1 h1 => x_fieldAddr rfl Try.runUnderlying39 rfl Try.sizeOf3 (by decide)) ?_
              refine w_x rfl (fun w1 h1 => x_load rfl (ld_cell Try.isAgg3 ((row200.le h1) 1 _ rfl))) ?_
              refine w_x rfl (fun w1 h1 => x_as rfl) ?_
              refine w_nil ?_
              intro w201 hl202
              have S203 := S185.step hl202
              refine l_nil ?_
              refine r_inBlock ?_
              exact IHd (place.set v.toNat (way.length : Int), v187, way ++ [q], a.dst) _ _ (by dsimp only; have := count_setI place v.toNat (way.length : Int) hp (by omega); omega) ⟨rfl, rfl, rfl, rfl, rfl, rfl, rfl, rfl, rfl, rfl, trivial⟩ ⟨hW.step hV hp hqm hkp ha, (S203.take 10)⟩
          · skip
            refine r_exit rfl ?_
            refine r_inScope ?_
            refine r_inBlock ?_
            refine r_region ?_
            refine l_x rfl (x_add rfl rfl (by omega)) ?_
            refine l_x rfl (x_mv rfl) ?_
            refine l_nil ?_
            exact IHb (i + 1, L, vo, ds, zs) _ _ (by dsimp only; omega) ⟨rfl, rfl, rfl, rfl, rfl, rfl, trivial⟩ ⟨by omega, hT, zero_step hz hc69, hF, (S1c.take 8)⟩
        · skip
          have hie : i = arcs.length := by omega
          subst hie
          refine r_exit rfl ?_
          refine r_seq ?_
          refine r_region ?_
          refine l_x rfl (x_mv rfl) ?_
          refine l_x rfl (x_as rfl) ?_
          refine l_x rfl (x_as rfl) ?_
          refine l_nil ?_
          refine r_ret (rs := [.tmp 4, .tmp 5]) [_, _] Try.func59 rfl ⟨rfl, rfl, trivial⟩ ?_
          exact ⟨_, ds, zs, _, rfl, S1b.pick [6, 7] (by decide) rfl, hF, .yes h0 hk hT.cir (by have := hT.few; have := left_le x; omega) (hT.done hz)⟩

end Go.Proofs
