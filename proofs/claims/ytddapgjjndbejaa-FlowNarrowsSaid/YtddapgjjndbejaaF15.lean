/-
  Contracts of functions of the program: each by symbolic execution of its text.
-/
import Derived.Test.YtddapgjjndbejaaF14
namespace Go.Proofs
open Go Go.Vk Go.Vk.Flow

/-- couchant/flow.Least$1. -/
theorem c_Least1 (N : Int) (va : Value) (arcs : List Arc) (vw : Value) (wl : List Int) (b0 b1 : Nat) (hmwl : wl.length ≤ 9223372036854775807) (w : World) (h0 : Blk w b0 [.int .i64 N, va] 24) (h1 : Blk w b1 [vw] 25)  (hA : Rd EA w va arcs) (Hwl : Rd EI w vw wl) :
    Cl Try.prog 100 #[.pointer (some ⟨b0, 0, none⟩), .pointer (some ⟨b1, 0, none⟩)] w fun v w' => v = .bool (row wl arcs.length (-1000) 1000) ∧ Le w w' := by
  refine fn_of_run (args := [_, _]) 6 Try.func100 rfl rfl rfl fun cs => ?_
  have S := Own.start (X := nob) w
  refine r_seq ?_
  refine r_region ?_
  refine l_x rfl (x_as rfl) ?_
  refine l_nil ?_
  refine r_seq ?_
  refine r_region ?_
  refine l_x rfl (x_load rfl (ld_blks (h0.keep S.le id) Try.isAgg24 Try.sizeOf24 rfl rfl)) ?_
  refine l_x rfl (x_load rfl (ld_blk (h1.keep S.le id) Try.isAgg25 rfl)) ?_
  refine l_call [] [] [_, _] rfl rfl Try.call70 rfl (c_weights N _ arcs _ _ (by omega) _ (hA.le S.le) (Hwl.le S.le)) ?_
  rintro _ w1 ⟨rfl, hl3⟩
  have S2 := S.step hl3
  refine l_x rfl (x_as rfl) ?_
  refine l_nil ?_
  refine r_ret (rs := [.tmp 2]) [_] Try.func100 rfl ⟨rfl, trivial⟩ ?_
  exact ⟨congrArg Value.bool (by simp [*]), S2.le⟩

/-- couchant/flow.Least. -/
theorem c_Least (N : Int) (va : Value) (arcs : List Arc) (vw : Value) (wl : List Int) (hmwl : wl.length ≤ 9223372036854775807) (w : World) (hA : Rd EA w va arcs) (Hwl : Rd EI w vw wl) :
    Cl Try.prog 42 #[.agg #[.int .i64 N, va], vw] w fun v w' => ∃ n vx x vp p e, v = .tuple #[.int .i64 n, vx, vp, .int .i64 e] ∧ Own nob w w' [vec EI vx x, vec EI vp p] ∧ GrR N arcs (wl.map (- ·)) (-n) x p e := by
  refine fn_of_run (args := [_, _]) 33 Try.func42 rfl rfl rfl fun cs => ?_
  have S := Own.start (X := nob) w
  refine r_seq ?_
  refine r_region ?_
  refine l_box S rfl rfl ?_
  intro b4 w1 S2 hl3
  refine l_box S2 rfl (Rd.cells (Hwl.le S2.le)) ?_
  intro b8 w5 S6 hl7
  refine l_x rfl (x_as rfl) ?_
  refine l_x rfl (x_as rfl) ?_
  refine l_x rfl (x_as rfl) ?_
  refine l_x rfl (x_as rfl) ?_
  refine l_nil ?_
  refine r_seq ?_
  refine r_seq ?_
  refine r_region ?_
  refine l_x rfl (x_load rfl (ld_blks (S6.blk 0 rfl) Try.isAgg24 Try.sizeOf24 rfl rfl)) ?_
  refine l_x rfl (x_func rfl rfl) ?_
  refine l_call [] [] [_, _] rfl rfl Try.call62 rfl (c_asked N va arcs (row wl arcs.length (-1000) 1000) 100 [_, _] _ (hA.le S6.le) Try.call100 (fun _ w1 h1 => c_Least1 N va arcs vw wl _ _ (by omega) w1 ((S6.blk 0 rfl).keep h1 id) ((S6.blk 1 rfl).keep h1 id) (hA.le (S6.le.trans h1)) (Hwl.le (S6.le.trans h1)))) ?_
  rintro _ w9 ⟨rfl, hl11⟩
  have S10 := S6.step hl11
  refine l_x rfl (x_as rfl) ?_
  refine l_nil ?_
  refine r_seq ?_
  refine r_region ?_
  refine l_x rfl (x_mv rfl) ?_
  refine l_x rfl (x_neq rfl rfl) ?_
  refine l_nil ?_
  refine r_ifd rfl (fun hc17 => ?_) (fun hc17 => ?_)
  · skip
    refine r_seq ?_
    refine r_region ?_
    refine l_x rfl (x_mv rfl) ?_
    refine l_x rfl (x_as rfl) ?_
    refine l_x rfl (x_as rfl) ?_
    refine l_x rfl (x_as rfl) ?_
    refine l_x rfl (x_as rfl) ?_
    refine l_nil ?_
    refine r_ret (rs := [.tmp 4, .tmp 5, .tmp 6, .tmp 7]) [_, _, _, _] Try.func42 rfl ⟨rfl, rfl, rfl, rfl, trivial⟩ ?_
    exact ⟨_, _, [], _, [], _, rfl, (S10.nilvec (E := EI)).nilvec (E := EI) |>.pick [2, 3] (by decide) rfl, GrR.badneg hc17⟩
  · skip
    have h0 := Decidable.not_not.1 hc17
    obtain ⟨hV, hw0⟩ := askw_zero.1 h0
    have hLx := hV.len
    refine r_skip ?_
    refine r_seq ?_
    refine r_drawE 13 nob Try.mixed (by kernel_rfl) ?_
    intro w12 hl13
    have S14 := S10.step hl13
    refine e_exact 0 _ (by kernel_rfl) rfl rfl (by kernel_rfl) rfl (ex_x rfl (fun w1 h1 => x_load rfl (ld_blks ((S14.step h1).blk 0 rfl) Try.isAgg24 Try.sizeOf24 rfl rfl))) ?_
    refine e_exact 1 _ (by kernel_rfl) rfl rfl (by kernel_rfl) rfl (ex_x rfl (fun w1 h1 => x_load rfl (ld_blk ((S14.step h1).blk 1 rfl) Try.isAgg25 rfl))) ?_
    refine e_next [2] (by kernel_rfl) (by kernel_rfl) ⟨⟨_, _, rfl, rfl, ?_⟩, trivial⟩
    refine s_callf [] [] [_] rfl rfl Try.call101 rfl ((c_opposite _ wl (by have := hw0.len; omega) hw0.bd _ (Hwl.le S14.le)).mono ?_)
    rintro v2215 w15 ⟨hN2215, hl2215⟩
    have S16 := S14.add hl2215 hN2215
    refine ⟨.of_le hl2215, ?_⟩
    refine e_next [3] (by kernel_rfl) (by kernel_rfl) ⟨⟨_, _, rfl, rfl, ?_⟩, trivial⟩
    refine s_callf [] [] [_, _] rfl rfl Try.call22 rfl ((c_Greatest N va arcs _ _ (by first | omega | (rw [unit_length]; omega) | (rw [List.length_map]; omega) | (rw [List.length_replicate]; omega)) _ (hA.le S16.le) (vec_rd (S16.at 2 rfl))).mono ?_)
    rintro _ w17 ⟨n2317, vx2317, x2317, vp2317, p2317, e2317, rfl, hO2317, hR2317⟩
    have S18 := S16.join hO2317
    refine ⟨.of_le hO2317.le, ?_⟩
    have hb2317 := hR2317.bd
    refine e_exact 4 _ (by kernel_rfl) rfl rfl (by kernel_rfl) rfl (ex_x rfl (fun w1 h1 => x_mv rfl)) ?_
    refine e_exact 5 _ (by kernel_rfl) rfl rfl (by kernel_rfl) rfl (ex_x rfl (fun w1 h1 => x_extract rfl rfl)) ?_
    refine e_exact 6 _ (by kernel_rfl) rfl rfl (by kernel_rfl) rfl (ex_x rfl (fun w1 h1 => x_extract rfl rfl)) ?_
    refine e_exact 7 _ (by kernel_rfl) rfl rfl (by kernel_rfl) rfl (ex_x rfl (fun w1 h1 => x_extract rfl rfl)) ?_
    refine e_exact 8 _ (by kernel_rfl) rfl rfl (by kernel_rfl) rfl (ex_x rfl (fun w1 h1 => x_extract rfl rfl)) ?_
    refine e_exact 9 _ (by kernel_rfl) rfl rfl (by kernel_rfl) rfl (ex_x rfl (fun w1 h1 => x_as rfl)) ?_
    refine e_exact 10 _ (by kernel_rfl) rfl rfl (by kernel_rfl) rfl (ex_x rfl (fun w1 h1 => x_as rfl)) ?_
    refine e_exact 11 _ (by kernel_rfl) rfl rfl (by kernel_rfl) rfl (ex_x rfl (fun w1 h1 => x_as rfl)) ?_
    refine e_exact 12 _ (by kernel_rfl) rfl rfl (by kernel_rfl) rfl (ex_x rfl (fun w1 h1 => x_as rfl)) ?_
    refine e_done (by kernel_rfl) ?_
    refine l_nil ?_
    refine r_seq ?_
    refine r_region ?_
    refine l_x rfl (x_mv rfl) ?_
    refine l_x rfl (x_neg rfl (by omega)) ?_
    refine l_x rfl (x_mv rfl) ?_
    refine l_x rfl (x_mv rfl) ?_
    refine l_x rfl (x_mv rfl) ?_
    refine l_x rfl (x_as rfl) ?_
    refine l_x rfl (x_as rfl) ?_
    refine l_x rfl (x_as rfl) ?_
    refine l_x rfl (x_as rfl) ?_
    refine l_nil ?_
    refine r_ret (rs := [.tmp 4, .tmp 5, .tmp 6, .tmp 7]) [_, _, _, _] Try.func42 rfl ⟨rfl, rfl, rfl, rfl, trivial⟩ ?_
    exact ⟨_, _, _, _, _, _, rfl, S18.pick [3, 4] (by decide) rfl, by rw [Int.neg_neg]; exact hR2317⟩

/-- (couchant/flow.single).weigh. -/
theorem c_weigh (N : Int) (va : Value) (arcs : List Arc) (i : Nat) (k : Int) (hV : Valid N arcs) (hi : i < arcs.length) (w : World) (hA : Rd EA w va arcs) :
    Cl Try.prog 123 #[.agg #[.int .i64 N, va, .int .i64 (i : Int)], .int .i64 k] w fun v w' => New w w' (vec EI v (unit arcs.length i k)) ∧ Le w w' := by
  have hLx := hV.len
  refine fn_of_run (args := [_, _]) 17 Try.func123 rfl rfl rfl fun cs => ?_
  have S := Own.start (X := nob) w
  refine r_seq ?_
  refine r_region ?_
  refine l_box S rfl rfl ?_
  intro b4 w1 S2 hl3
  refine l_x rfl (x_as rfl) ?_
  refine l_nil ?_
  refine r_seq ?_
  refine r_region ?_
  refine l_x rfl (x_fieldAddr rfl Try.runUnderlying94 rfl Try.sizeOf24 (by decide)) ?_
  refine l_x rfl (x_fieldAddr rfl Try.runUnderlying24 rfl Try.sizeOf22 (by decide)) ?_
  refine l_x rfl (x_load rfl (ld_blk (S2.blk 0 rfl) Try.isAgg22 rfl)) ?_
  refine l_x rfl (x_len (hA.le S2.le) rfl Try.runUnderlying22) ?_
  refine l_make EI 0 S2 rfl Try.runUnderlying25 Try.sizeOf3 Try.typeInfo3 Try.zeroValue3 rfl rfl rfl rfl (Nat.le_refl _) (by unfold maxLen; omega) (by show _ * 8 ≤ _; omega) ?_
  intro v8 w5 hv9 S6 hl7
  refine l_x rfl (x_as rfl) ?_
  refine l_nil ?_
  refine r_seq ?_
  refine r_region ?_
  refine l_x rfl (x_mv rfl) ?_
  refine l_x rfl (x_fieldAddr rfl Try.runUnderlying94 rfl Try.sizeOf3 (by decide)) ?_
  refine l_x rfl (x_load rfl (ld_blk (S6.blk 0 rfl) Try.isAgg3 rfl)) ?_
  refine l_x rfl (x_mv rfl) ?_
  refine l_index EI rfl (vec_rd (S6.at 1 rfl)) rfl rfl Try.runUnderlying25 Try.sizeOf3 (by omega) (List.getElem?_eq_getElem (by rw [List.length_replicate]; omega)) ?_
  intro b10 o11 hat12 row13
  refine l_storevi (f := 0) S6 1 rfl rfl hat12 rfl rfl Try.sizeOf3 (List.getElem?_eq_getElem (by rw [List.length_replicate]; omega)) (by decide) rfl ?_
  intro w14 S15 hk16
  refine l_nil ?_
  refine r_seq ?_
  refine r_region ?_
  refine l_x rfl (x_mv rfl) ?_
  refine l_x rfl (x_as rfl) ?_
  refine l_nil ?_
  refine r_ret (rs := [.tmp 4]) [_] Try.func123 rfl ⟨rfl, trivial⟩ ?_
  exact ⟨S15.new 1 rfl, S15.le⟩

/-- (couchant/flow.single).low. -/
theorem c_low (N : Int) (va : Value) (arcs : List Arc) (i : Nat) (hV : Valid N arcs) (hi : i < arcs.length) (w : World) (hA : Rd EA w va arcs) :
    Cl Try.prog 75 #[.agg #[.int .i64 N, va, .int .i64 (i : Int)]] w fun v w' => ∃ n e, v = .tuple #[.int .i64 n, .int .i64 e] ∧ Le w w' ∧ EndR N arcs i (-1) n e := by
  have hLx := hV.len
  refine fn_of_run (args := [_]) 21 Try.func75 rfl rfl rfl fun cs => ?_
  have S := Own.start (X := nob) w
  refine r_seq ?_
  refine r_region ?_
  refine l_box S rfl rfl ?_
  intro b4 w1 S2 hl3
  refine l_x rfl (x_as rfl) ?_
  refine l_x rfl (x_as rfl) ?_
  refine l_nil ?_
  refine r_seq ?_
  refine r_drawE 14 nob Try.mixed (by kernel_rfl) ?_
  intro w5 hl6
  have S7 := S2.step hl6
  refine e_exact 0 _ (by kernel_rfl) rfl rfl (by kernel_rfl) rfl (ex_x rfl (fun w1 h1 => x_fieldAddr rfl Try.runUnderlying94 rfl Try.sizeOf24 (by decide))) ?_
  refine e_exact 1 _ (by kernel_rfl) rfl rfl (by kernel_rfl) rfl (ex_x rfl (fun w1 h1 => x_load rfl (ld_blks ((S7.step h1).blk 0 rfl) Try.isAgg24 Try.sizeOf24 rfl rfl))) ?_
  refine e_exact 2 _ (by kernel_rfl) rfl rfl (by kernel_rfl) rfl (ex_x rfl (fun w1 h1 => x_load rfl (ld_blks ((S7.step h1).blk 0 rfl) Try.isAgg94 Try.sizeOf94 rfl rfl))) ?_
  refine e_next [3] (by kernel_rfl) (by kernel_rfl) ⟨⟨_, _, rfl, rfl, ?_⟩, trivial⟩
  refine s_callf [] [] [_, _] rfl rfl Try.call123 rfl ((c_weigh N va arcs i _ hV hi _ (hA.le S7.le)).mono ?_)
  rintro v128 w8 ⟨hN128, hl128⟩
  have S9 := S7.add hl128 hN128
  refine ⟨.of_le hl128, ?_⟩
  refine e_next [4] (by kernel_rfl) (by kernel_rfl) ⟨⟨_, _, rfl, rfl, ?_⟩, trivial⟩
  refine s_callf [] [] [_, _] rfl rfl Try.call22 rfl ((c_Greatest N va arcs _ _ (by first | omega | (rw [unit_length]; omega) | (rw [List.length_map]; omega) | (rw [List.length_replicate]; omega)) _ (hA.le S9.le) (vec_rd (S9.at 1 rfl))).mono ?_)
  rintro _ w10 ⟨n1310, vx1310, x1310, vp1310, p1310, e1310, rfl, hO1310, hR1310⟩
  have S11 := S9.join hO1310
  refine ⟨.of_le hO1310.le, ?_⟩
  have hb1310 := hR1310.bd
  refine e_exact 5 _ (by kernel_rfl) rfl rfl (by kernel_rfl) rfl (ex_x rfl (fun w1 h1 => x_mv rfl)) ?_
  refine e_exact 6 _ (by kernel_rfl) rfl rfl (by kernel_rfl) rfl (ex_x rfl (fun w1 h1 => x_extract rfl rfl)) ?_
  refine e_exact 7 _ (by kernel_rfl) rfl rfl (by kernel_rfl) rfl (ex_x rfl (fun w1 h1 => x_extract rfl rfl)) ?_
  refine e_exact 8 _ (by kernel_rfl) rfl rfl (by kernel_rfl) rfl (ex_x rfl (fun w1 h1 => x_extract rfl rfl)) ?_
  refine e_exact 9 _ (by kernel_rfl) rfl rfl (by kernel_rfl) rfl (ex_x rfl (fun w1 h1 => x_extract rfl rfl)) ?_
  refine e_exact 10 _ (by kernel_rfl) rfl rfl (by kernel_rfl) rfl (ex_x rfl (fun w1 h1 => x_as rfl)) ?_
  refine e_exact 11 _ (by kernel_rfl) rfl rfl (by kernel_rfl) rfl (ex_x rfl (fun w1 h1 => x_as rfl)) ?_
  refine e_exact 12 _ (by kernel_rfl) rfl rfl (by kernel_rfl) rfl (ex_x rfl (fun w1 h1 => x_as rfl)) ?_
  refine e_exact 13 _ (by kernel_rfl) rfl rfl (by kernel_rfl) rfl (ex_x rfl (fun w1 h1 => x_as rfl)) ?_
  refine e_done (by kernel_rfl) ?_
  refine l_nil ?_
  refine r_seq ?_
  refine r_region ?_
  refine l_x rfl (x_mv rfl) ?_
  refine l_x rfl (x_neg rfl (by omega)) ?_
  refine l_x rfl (x_mv rfl) ?_
  refine l_x rfl (x_as rfl) ?_
  refine l_x rfl (x_as rfl) ?_
  refine l_nil ?_
  refine r_ret (rs := [.tmp 2, .tmp 3]) [_, _] Try.func75 rfl ⟨rfl, rfl, trivial⟩ ?_
  exact ⟨_, _, rfl, S11.le, hR1310.low hV hi⟩

/-- (couchant/flow.single).high. -/
theorem c_high (N : Int) (va : Value) (arcs : List Arc) (i : Nat) (hV : Valid N arcs) (hi : i < arcs.length) (w : World) (hA : Rd EA w va arcs) :
    Cl Try.prog 76 #[.agg #[.int .i64 N, va, .int .i64 (i : Int)]] w fun v w' => ∃ n e, v = .tuple #[.int .i64 n, .int .i64 e] ∧ Le w w' ∧ EndR N arcs i (1) n e := by
  have hLx := hV.len
  refine fn_of_run (args := [_]) 20 Try.func76 rfl rfl rfl fun cs => ?_
  have S := Own.start (X := nob) w
  refine r_seq ?_
  refine r_region ?_
  refine l_box S rfl rfl ?_
  intro b4 w1 S2 hl3
  refine l_x rfl (x_as rfl) ?_
  refine l_x rfl (x_as rfl) ?_
  refine l_nil ?_
  refine r_seq ?_
  refine r_drawE 14 nob Try.mixed (by kernel_rfl) ?_
  intro w5 hl6
  have S7 := S2.step hl6
  refine e_exact 0 _ (by kernel_rfl) rfl rfl (by kernel_rfl) rfl (ex_x rfl (fun w1 h1 => x_fieldAddr rfl Try.runUnderlying94 rfl Try.sizeOf24 (by decide))) ?_
  refine e_exact 1 _ (by kernel_rfl) rfl rfl (by kernel_rfl) rfl (ex_x rfl (fun w1 h1 => x_load rfl (ld_blks ((S7.step h1).blk 0 rfl) Try.isAgg24 Try.sizeOf24 rfl rfl))) ?_
  refine e_exact 2 _ (by kernel_rfl) rfl rfl (by kernel_rfl) rfl (ex_x rfl (fun w1 h1 => x_load rfl (ld_blks ((S7.step h1).blk 0 rfl) Try.isAgg94 Try.sizeOf94 rfl rfl))) ?_
  refine e_next [3] (by kernel_rfl) (by kernel_rfl) ⟨⟨_, _, rfl, rfl, ?_⟩, trivial⟩
  refine s_callf [] [] [_, _] rfl rfl Try.call123 rfl ((c_weigh N va arcs i _ hV hi _ (hA.le S7.le)).mono ?_)
  rintro v128 w8 ⟨hN128, hl128⟩
  have S9 := S7.add hl128 hN128
  refine ⟨.of_le hl128, ?_⟩
  refine e_next [4] (by kernel_rfl) (by kernel_rfl) ⟨⟨_, _, rfl, rfl, ?_⟩, trivial⟩
  refine s_callf [] [] [_, _] rfl rfl Try.call22 rfl ((c_Greatest N va arcs _ _ (by first | omega | (rw [unit_length]; omega) | (rw [List.length_map]; omega) | (rw [List.length_replicate]; omega)) _ (hA.le S9.le) (vec_rd (S9.at 1 rfl))).mono ?_)
  rintro _ w10 ⟨n1310, vx1310, x1310, vp1310, p1310, e1310, rfl, hO1310, hR1310⟩
  have S11 := S9.join hO1310
  refine ⟨.of_le hO1310.le, ?_⟩
  have hb1310 := hR1310.bd
  refine e_exact 5 _ (by kernel_rfl) rfl rfl (by kernel_rfl) rfl (ex_x rfl (fun w1 h1 => x_mv rfl)) ?_
  refine e_exact 6 _ (by kernel_rfl) rfl rfl (by kernel_rfl) rfl (ex_x rfl (fun w1 h1 => x_extract rfl rfl)) ?_
  refine e_exact 7 _ (by kernel_rfl) rfl rfl (by kernel_rfl) rfl (ex_x rfl (fun w1 h1 => x_extract rfl rfl)) ?_
  refine e_exact 8 _ (by kernel_rfl) rfl rfl (by kernel_rfl) rfl (ex_x rfl (fun w1 h1 => x_extract rfl rfl)) ?_
  refine e_exact 9 _ (by kernel_rfl) rfl rfl (by kernel_rfl) rfl (ex_x rfl (fun w1 h1 => x_extract rfl rfl)) ?_
  refine e_exact 10 _ (by kernel_rfl) rfl rfl (by kernel_rfl) rfl (ex_x rfl (fun w1 h1 => x_as rfl)) ?_
  refine e_exact 11 _ (by kernel_rfl) rfl rfl (by kernel_rfl) rfl (ex_x rfl (fun w1 h1 => x_as rfl)) ?_
  refine e_exact 12 _ (by kernel_rfl) rfl rfl (by kernel_rfl) rfl (ex_x rfl (fun w1 h1 => x_as rfl)) ?_
  refine e_exact 13 _ (by kernel_rfl) rfl rfl (by kernel_rfl) rfl (ex_x rfl (fun w1 h1 => x_as rfl)) ?_
  refine e_done (by kernel_rfl) ?_
  refine l_nil ?_
  refine r_seq ?_
  refine r_region ?_
  refine l_x rfl (x_mv rfl) ?_
  refine l_x rfl (x_mv rfl) ?_
  refine l_x rfl (x_as rfl) ?_
  refine l_x rfl (x_as rfl) ?_
  refine l_nil ?_
  refine r_ret (rs := [.tmp 2, .tmp 3]) [_, _] Try.func76 rfl ⟨rfl, rfl, trivial⟩ ?_
  exact ⟨_, _, rfl, S11.le, hR1310.high hV hi⟩

/-- couchant/flow.Range$1. -/
theorem c_Range1 (N : Int) (va : Value) (arcs : List Arc) (i : Int) (b0 b1 : Nat) (hV : Valid N arcs) (w : World) (h0 : Blk w b0 [.int .i64 i] 3) (h1 : Blk w b1 [.int .i64 N, va] 24) (hA : Rd EA w va arcs) :
    Cl Try.prog 74 #[.pointer (some ⟨b0, 0, none⟩), .pointer (some ⟨b1, 0, none⟩)] w fun v w' => v = .bool (inb arcs i) ∧ Le w w' := by
  have hLx := hV.len
  refine fn_of_run (args := [_, _]) 9 Try.func74 rfl rfl rfl fun cs => ?_
  have S := Own.start (X := nob) w
  refine r_seq ?_
  refine r_region ?_
  refine l_x rfl (x_as rfl) ?_
  refine l_nil ?_
  refine r_seq ?_
  refine r_region ?_
  refine l_x rfl (x_load rfl (ld_blk (h0.keep S.le id) Try.isAgg3 rfl)) ?_
  refine l_x rfl (x_fieldAddr rfl Try.runUnderlying24 rfl Try.sizeOf22 (by decide)) ?_
  refine l_x rfl (x_load rfl (ld_blk (h1.keep S.le id) Try.isAgg22 rfl)) ?_
  refine l_x rfl (x_len (hA.le S.le) rfl Try.runUnderlying22) ?_
  refine l_x rfl (x_sub rfl rfl (by omega)) ?_
  refine l_call [] [] [_, _, _] rfl rfl Try.call64 rfl (c_in _ _ _ _) ?_
  rintro _ w1 ⟨rfl, hl3⟩
  have S2 := S.step hl3
  refine l_x rfl (x_as rfl) ?_
  refine l_nil ?_
  refine r_ret (rs := [.tmp 2]) [_] Try.func74 rfl ⟨rfl, trivial⟩ ?_
  exact ⟨congrArg Value.bool (by simp only [inb]), S2.le⟩

theorem zcR : (#[.int .i64 0, .int .i64 0] : Array Value) = (tab 2 fun _ => 0).toArray := rfl

/-- couchant/flow.Range. -/
theorem c_Range (N : Int) (va : Value) (arcs : List Arc) (i : Int) (w : World) (hA : Rd EA w va arcs) :
    Cl Try.prog 23 #[.agg #[.int .i64 N, va], .int .i64 i] w fun v w' => ∃ lo hi e, v = .tuple #[.int .i64 lo, .int .i64 hi, .int .i64 e] ∧ Le w w' ∧ RaR N arcs i lo hi e := by
  refine fn_of_run (args := [_, _]) 47 Try.func23 rfl rfl rfl fun cs => ?_
  have S := Own.start (X := nob) w
  refine r_seq ?_
  refine r_region ?_
  refine l_box S rfl rfl ?_
  intro b4 w1 S2 hl3
  refine l_box S2 rfl rfl ?_
  intro b8 w5 S6 hl7
  refine l_x rfl (x_as rfl) ?_
  refine l_x rfl (x_as rfl) ?_
  refine l_x rfl (x_as rfl) ?_
  refine l_nil ?_
  refine r_seq ?_
  refine r_seq ?_
  refine r_region ?_
  refine l_x rfl (x_load rfl (ld_blks (S6.blk 0 rfl) Try.isAgg24 Try.sizeOf24 rfl rfl)) ?_
  refine l_x rfl (x_func rfl rfl) ?_
  refine l_call [] [] [_, _] rfl rfl Try.call62 rfl (c_asked N va arcs (inb arcs i) 74 [_, _] _ (hA.le S6.le) Try.call74 (fun hv w1 h1 => c_Range1 N va arcs i _ _ (chk_zero.1 hv) w1 ((S6.blk 1 rfl).keep h1 id) ((S6.blk 0 rfl).keep h1 id) (hA.le (S6.le.trans h1)))) ?_
  rintro _ w9 ⟨rfl, hl11⟩
  have S10 := S6.step hl11
  refine l_x rfl (x_as rfl) ?_
  refine l_nil ?_
  refine r_seq ?_
  refine r_region ?_
  refine l_x rfl (x_mv rfl) ?_
  refine l_x rfl (x_neq rfl rfl) ?_
  refine l_nil ?_
  refine r_ifd rfl (fun hc16 => ?_) (fun hc16 => ?_)
  · skip
    refine r_seq ?_
    refine r_region ?_
    refine l_x rfl (x_mv rfl) ?_
    refine l_x rfl (x_as rfl) ?_
    refine l_x rfl (x_as rfl) ?_
    refine l_x rfl (x_as rfl) ?_
    refine l_nil ?_
    refine r_ret (rs := [.tmp 4, .tmp 5, .tmp 6]) [_, _, _] Try.func23 rfl ⟨rfl, rfl, rfl, trivial⟩ ?_
    exact ⟨_, _, _, rfl, S10.le, .bad hc16⟩
  · skip
    have h0 := Decidable.not_not.1 hc16
    obtain ⟨hV, hi0, hi1⟩ := aski_zero.1 h0
    have hLx := hV.len
    refine r_skip ?_
    refine r_seq ?_
    refine r_region ?_
    refine l_x rfl (x_load rfl (ld_blks (S10.blk 0 rfl) Try.isAgg24 Try.sizeOf24 rfl rfl)) ?_
    refine l_x rfl (x_load rfl (ld_blk (S10.blk 1 rfl) Try.isAgg3 rfl)) ?_
    refine l_x rfl (x_buildS (out := [_, _, _]) (ss := [2, 1]) Try.zeroValue94 rfl Try.runUnderlying94 ⟨Try.sizeOf24, Try.sizeOf3, trivial⟩ (fill_cons rfl rfl rfl (Nat.le_of_ble_eq_true rfl) (fill_cons rfl rfl rfl (Nat.le_of_ble_eq_true rfl) fill_nil))) ?_
    refine l_alloc S10 rfl Try.zeroValue94 rfl ?_
    intro b15 w12 S13 hl14
    refine l_stores (vs := [_, _, _]) S13 2 rfl rfl rfl rfl (ones_cons rfl (ones_cons (Rd.one (hA.le S13.le)) (ones_cons rfl ones_nil))) Try.sizeOf94 (by first | exact Nat.le_refl _ | simp) (splice_all rfl) ?_
    intro w16 S17 hk18
    refine l_nil ?_
    refine r_seq ?_
    refine r_region ?_
    refine l_alloc S17 rfl Try.zeroValue95 zcR ?_
    intro b22 w19 S20 hl21
    refine l_nil ?_
    refine r_seq ?_
    refine r_seq ?_
    refine r_region ?_
    refine l_x rfl (x_load rfl (ld_blks (S20.blk 2 rfl) Try.isAgg94 Try.sizeOf94 rfl rfl)) ?_
    refine l_x rfl (x_func rfl rfl) ?_
    refine l_x rfl (x_load rfl (ld_blks (S20.blk 2 rfl) Try.isAgg94 Try.sizeOf94 rfl rfl)) ?_
    refine l_x rfl (x_func rfl rfl) ?_
    refine l_buildSlice (fnE 96 (.agg #[.int .i64 N, va, .int .i64 i])) [75, 76] S20 rfl Try.runUnderlying97 Try.sizeOf96 Try.zeroValue96 rfl ⟨rfl, rfl, rfl, rfl, trivial⟩ (Nat.le_of_ble_eq_true rfl) ?_
    intro v26 w23 S24 hl25
    refine l_x rfl (x_len (vec_rd (S24.at 4 rfl)) rfl Try.runUnderlying97) ?_
    refine l_x rfl (x_mv rfl) ?_
    refine l_nil ?_
    refine r_block ?_
    refine r_loop (G := Nat × (Nat → Int)) (fun ⟨j, f⟩ => 2 - j) (fun ⟨j, f⟩ => [(8, .pointer (some ⟨b15, 0, none⟩)), (9, .pointer (some ⟨b22, 0, none⟩)), (25, v26), (27, .int .i64 j), (26, .int .i64 2)]) (fun ⟨j, f⟩ w' => (j ≤ 2) ∧ (∀ q, q < j → EndR N arcs i.toNat (sgn q) (f q) 0) ∧ Own nob w w' [blk b4 [.int .i64 N, va] 24, blk b8 [.int .i64 i] 3, blk b15 [.int .i64 N, va, .int .i64 i] 94, blk b22 (tab 2 f) 95, vec (fnE 96 (.agg #[.int .i64 N, va, .int .i64 i])) v26 [75, 76]]) (0, fun _ => 0) ⟨rfl, rfl, rfl, rfl, rfl, trivial⟩ ⟨Nat.zero_le _, fun j h => absurd h (Nat.not_lt_zero j), S24⟩ ?_
    rintro ⟨j, f⟩ ρ w1a ⟨hj, hE, S1a⟩ IHa
    refine r_seq ?_
    refine r_region ?_
    refine l_x rfl (x_lss rfl rfl) ?_
    refine l_nil ?_
    refine r_seq ?_
    refine r_ifd rfl (fun hc28 => ?_) (fun hc28 => ?_)
    · skip
      have hj2 : j < 2 := by omega
      obtain ⟨k, hk⟩ : ∃ k, ([75, 76] : List Nat)[j]? = some k := ⟨_, List.getElem?_eq_getElem (by simpa using hj2)⟩
      have hk0 : (∀ args w, (callFunc k args).run Try.prog w = .ok (.enter k args) w) ∧ ∀ w1, Le w w1 → Cl Try.prog k #[.agg #[.int .i64 N, va, .int .i64 i]] w1 fun v w2 => ∃ n e, v = .tuple #[.int .i64 n, .int .i64 e] ∧ Le w1 w2 ∧ EndR N arcs i.toNat (sgn j) n e := by
        have hi0 : ((i.toNat : Nat) : Int) = i := by omega
        rcases Nat.eq_zero_or_pos j with h | h
        · subst h
          simp at hk
          subst hk
          refine ⟨Try.call75, fun w1 h1 => ?_⟩
          have := c_low N va arcs i.toNat hV (by omega) w1 (hA.le h1)
          rw [hi0] at this; exact this
        · have h1 : j = 1 := by omega
          subst h1
          simp at hk
          subst hk
          refine ⟨Try.call76, fun w1 h1 => ?_⟩
          have := c_high N va arcs i.toNat hV (by omega) w1 (hA.le h1)
          rw [hi0] at this; exact this
      refine r_skip ?_
      refine r_seq ?_
      refine r_block ?_
      refine r_seq ?_
      refine r_region ?_
      refine l_x rfl (x_mv rfl) ?_
      refine l_index (fnE 96 (.agg #[.int .i64 N, va, .int .i64 i])) rfl (vec_rd (S1a.at 4 rfl)) rfl rfl Try.runUnderlying97 Try.sizeOf96 (by omega) hk ?_
      intro b27 o28 hat29 row30
      refine l_x rfl (x_load rfl (ld_cell Try.isAgg96 (row30 0 _ rfl))) ?_
      refine l_x rfl (x_as rfl) ?_
      refine l_x rfl (x_as rfl) ?_
      refine l_nil ?_
      refine r_seq ?_
      refine r_region ?_
      refine l_x rfl (x_mv rfl) ?_
      refine l_x rfl (x_mv rfl) ?_
      refine l_call [_] [] [_] rfl rfl hk0.1 rfl (hk0.2 _ S1a.le) ?_
      rintro _ w31 ⟨n0, e0, rfl, hl0, hE0⟩
      have S32 := S1a.step hl0
      refine l_x rfl (x_mv rfl) ?_
      refine l_x rfl (x_extract rfl rfl) ?_
      refine l_x rfl (x_extract rfl rfl) ?_
      refine l_x rfl (x_indexAddr_array rfl rfl Try.runUnderlying95 Try.sizeOf3 (by omega)) ?_
      refine l_storeq S32 3 rfl rfl rfl rfl rfl Try.sizeOf3 (tabs_lt rfl (by omega)) (tabs_set rfl (by omega)) ?_
      intro w33 S34 hk35
      refine l_x rfl (x_as rfl) ?_
      refine l_nil ?_
      refine r_seq ?_
      refine r_region ?_
      refine l_x rfl (x_mv rfl) ?_
      refine l_x rfl (x_neq rfl rfl) ?_
      refine l_nil ?_
      refine r_ifd rfl (fun hc40 => ?_) (fun hc40 => ?_)
      · skip
        refine r_seq ?_
        refine r_region ?_
        refine l_x rfl (x_mv rfl) ?_
        refine l_x rfl (x_as rfl) ?_
        refine l_x rfl (x_as rfl) ?_
        refine l_x rfl (x_as rfl) ?_
        refine l_nil ?_
        refine r_ret (rs := [.tmp 4, .tmp 5, .tmp 6]) [_, _, _] Try.func23 rfl ⟨rfl, rfl, rfl, trivial⟩ ?_
        obtain ⟨he60, hno⟩ := hE0.cut hc40
        exact ⟨_, _, _, rfl, S34.le, by rw [he60]; exact .no h0 hno⟩
      · skip
        refine r_skip ?_
        refine r_inBlock ?_
        refine r_region ?_
        refine l_x rfl (x_add rfl rfl (by omega)) ?_
        refine l_x rfl (x_mv rfl) ?_
        refine l_nil ?_
        exact IHa (j + 1, upf f j n0) _ _ (by dsimp only; omega) ⟨rfl, rfl, rfl, rfl, rfl, trivial⟩ ⟨by omega, Ends.more hE hE0 (Decidable.not_not.1 hc40), S34⟩
    · skip
      have hj2 : j = 2 := by omega
      subst hj2
      refine r_exit rfl ?_
      refine r_seq ?_
      refine r_drawR 7 Try.mixed (by kernel_rfl) ?_
      refine w_x rfl (fun w1 h1 => x_indexAddr_array rfl rfl Try.runUnderlying95 Try.sizeOf3 (by omega)) ?_
      refine w_x rfl (fun w1 h1 => x_load rfl (ld_blk ((S1a.step h1).blk 3 rfl) Try.isAgg3 (tabs_get rfl (by omega)))) ?_
      refine w_x rfl (fun w1 h1 => x_indexAddr_array rfl rfl Try.runUnderlying95 Try.sizeOf3 (by omega)) ?_
      refine w_x rfl (fun w1 h1 => x_load rfl (ld_blk ((S1a.step h1).blk 3 rfl) Try.isAgg3 (tabs_get rfl (by omega)))) ?_
      refine w_x rfl (fun w1 h1 => x_as rfl) ?_
      refine w_x rfl (fun w1 h1 => x_as rfl) ?_
      refine w_x rfl (fun w1 h1 => x_as rfl) ?_
      refine w_nil ?_
      intro w36 hl37
      have S38 := S1a.step hl37
      refine l_nil ?_
      refine r_ret (rs := [.tmp 4, .tmp 5, .tmp 6]) [_, _, _] Try.func23 rfl ⟨rfl, rfl, rfl, trivial⟩ ?_
      exact ⟨_, _, _, rfl, S38.le, Ends.done h0 hE⟩

end Go.Proofs
