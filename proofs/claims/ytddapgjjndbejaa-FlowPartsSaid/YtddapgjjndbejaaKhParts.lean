/- Texts joined for a claim: F15, F16, F17, L0, R0, L1, G1, F23, G7. -/
import Derived.Test.YtddapgjjndbejaaKgParts
import Derived.Test.YtddapgjjndbejaaKbParts
import Derived.Test.YtddapgjjndbejaaRows
import Derived.Test.YtddapgjjndbejaaKdParts
import Derived.Test.YtddapgjjndbejaaKcParts
/-
  Contracts of functions of the program: each by symbolic execution of its text.
-/
namespace Go.Proofs
open Go Go.Vk Go.Vk.Flow

/-- couchant/flow.Least$1. -/
theorem c_Least1 (N : Int) (va : Value) (arcs : List Arc) (vw : Value) (wl : List Int) (b0 b1 : Nat) (hmwl : wl.length ≤ 9223372036854775807) (w : World) (h0 : Blk w b0 [.int .i64 N, va] 24) (h1 : Blk w b1 [vw] 25)  (hA : Rd EA w va arcs) (Hwl : Rd EI w vw wl) :
    Cl Try.prog 100 #[.pointer (some ⟨b0, 0, none⟩), .pointer (some ⟨b1, 0, none⟩)] w fun v w' => v = .bool (row wl arcs.length (-1000) 1000) ∧ Le w w' := by
  refine fn_of_run (args := [_, _]) 6 Try.func100 rfl rfl rfl fun cs => ?_
  have S := Own.start (X := nob) w
  refine r_seq ?_
  refine r_region ?_
  refine l_x rfl (x_as rfl) ?_
  refine l_nil ?_
  refine r_seq ?_
  refine r_region ?_
  refine l_x rfl (x_load rfl (ld_blks (h0.keep S.le id) Try.isAgg24 Try.sizeOf24 rfl rfl)) ?_
  refine l_x rfl (x_load rfl (ld_blk (h1.keep S.le id) Try.isAgg25 rfl)) ?_
  refine l_call [] [] [_, _] rfl rfl Try.call70 rfl (c_weights N _ arcs _ _ (by omega) _ (hA.le S.le) (Hwl.le S.le)) ?_
  rintro _ w1 ⟨rfl, hl3⟩
  have S2 := S.step hl3
  refine l_x rfl (x_as rfl) ?_
  refine l_nil ?_
  refine r_ret (rs := [.tmp 2]) [_] Try.func100 rfl ⟨rfl, trivial⟩ ?_
  exact ⟨congrArg Value.bool (by simp [*]), S2.le⟩

/-- couchant/flow.Least. -/
theorem c_Least (N : Int) (va : Value) (arcs : List Arc) (vw : Value) (wl : List Int) (hmwl : wl.length ≤ 9223372036854775807) (w : World) (hA : Rd EA w va arcs) (Hwl : Rd EI w vw wl) :
    Cl Try.prog 42 #[.agg #[.int .i64 N, va], vw] w fun v w' => ∃ n vx x vp p e, v = .tuple #[.int .i64 n, vx, vp, .int .i64 e] ∧ Own nob w w' [vec EI vx x, vec EI vp p] ∧ GrR N arcs (wl.map (- ·)) (-n) x p e := by
  refine fn_of_run (args := [_, _]) 33 Try.func42 rfl rfl rfl fun cs => ?_
  have S := Own.start (X := nob) w
  refine r_seq ?_
  refine r_region ?_
  refine l_box S rfl rfl ?_
  intro b4 w1 S2 hl3
  refine l_box S2 rfl (Rd.cells (Hwl.le S2.le)) ?_
  intro b8 w5 S6 hl7
  refine l_x rfl (x_as rfl) ?_
  refine l_x rfl (x_as rfl) ?_
  refine l_x rfl (x_as rfl) ?_
  refine l_x rfl (x_as rfl) ?_
  refine l_nil ?_
  refine r_seq ?_
  refine r_seq ?_
  refine r_region ?_
  refine l_x rfl (x_load rfl (ld_blks (S6.blk 0 rfl) Try.isAgg24 Try.sizeOf24 rfl rfl)) ?_
  refine l_x rfl (x_func rfl rfl) ?_
  refine l_call [] [] [_, _] rfl rfl Try.call62 rfl (c_asked N va arcs (row wl arcs.length (-1000) 1000) 100 [_, _] _ (hA.le S6.le) Try.call100 (fun _ w1 h1 => c_Least1 N va arcs vw wl _ _ (by omega) w1 ((S6.blk 0 rfl).keep h1 id) ((S6.blk 1 rfl).keep h1 id) (hA.le (S6.le.trans h1)) (Hwl.le (S6.le.trans h1)))) ?_
  rintro _ w9 ⟨rfl, hl11⟩
  have S10 := S6.step hl11
  refine l_x rfl (x_as rfl) ?_
  refine l_nil ?_
  refine r_seq ?_
  refine r_region ?_
  refine l_x rfl (x_mv rfl) ?_
  refine l_x rfl (x_neq rfl rfl) ?_
  refine l_nil ?_
  refine r_ifd rfl (fun hc17 => ?_) (fun hc17 => ?_)
  · skip
    refine r_seq ?_
    refine r_region ?_
    refine l_x rfl (x_mv rfl) ?_
    refine l_x rfl (x_as rfl) ?_
    refine l_x rfl (x_as rfl) ?_
    refine l_x rfl (x_as rfl) ?_
    refine l_x rfl (x_as rfl) ?_
    refine l_nil ?_
    refine r_ret (rs := [.tmp 4, .tmp 5, .tmp 6, .tmp 7]) [_, _, _, _] Try.func42 rfl ⟨rfl, rfl, rfl, rfl, trivial⟩ ?_
    exact ⟨_, _, [], _, [], _, rfl, (S10.nilvec (E := EI)).nilvec (E := EI) |>.pick [2, 3] (by decide) rfl, GrR.badneg hc17⟩
  · skip
    have h0 := Decidable.not_not.1 hc17
    obtain ⟨hV, hw0⟩ := askw_zero.1 h0
    have hLx := hV.len
    refine r_skip ?_
    refine r_seq ?_
    refine r_drawE 13 nob Try.mixed (by kernel_rfl) ?_
    intro w12 hl13
    have S14 := S10.step hl13
    refine e_exact 0 _ (by kernel_rfl) rfl rfl (by kernel_rfl) rfl (ex_x rfl (fun w1 h1 => x_load rfl (ld_blks ((S14.step h1).blk 0 rfl) Try.isAgg24 Try.sizeOf24 rfl rfl))) ?_
    refine e_exact 1 _ (by kernel_rfl) rfl rfl (by kernel_rfl) rfl (ex_x rfl (fun w1 h1 => x_load rfl (ld_blk ((S14.step h1).blk 1 rfl) Try.isAgg25 rfl))) ?_
    refine e_next [2] (by kernel_rfl) (by kernel_rfl) ⟨⟨_, _, rfl, rfl, ?_⟩, trivial⟩
    refine s_callf [] [] [_] rfl rfl Try.call101 rfl ((c_opposite _ wl (by have := hw0.len; omega) hw0.bd _ (Hwl.le S14.le)).mono ?_)
    rintro v2215 w15 ⟨hN2215, hl2215⟩
    have S16 := S14.add hl2215 hN2215
    refine ⟨.of_le hl2215, ?_⟩
    refine e_next [3] (by kernel_rfl) (by kernel_rfl) ⟨⟨_, _, rfl, rfl, ?_⟩, trivial⟩
    refine s_callf [] [] [_, _] rfl rfl Try.call22 rfl ((c_Greatest N va arcs _ _ (by first | omega | (rw [unit_length]; omega) | (rw [List.length_map]; omega) | (rw [List.length_replicate]; omega)) _ (hA.le S16.le) (vec_rd (S16.at 2 rfl))).mono ?_)
    rintro _ w17 ⟨n2317, vx2317, x2317, vp2317, p2317, e2317, rfl, hO2317, hR2317⟩
    have S18 := S16.join hO2317
    refine ⟨.of_le hO2317.le, ?_⟩
    have hb2317 := hR2317.bd
    refine e_exact 4 _ (by kernel_rfl) rfl rfl (by kernel_rfl) rfl (ex_x rfl (fun w1 h1 => x_mv rfl)) ?_
    refine e_exact 5 _ (by kernel_rfl) rfl rfl (by kernel_rfl) rfl (ex_x rfl (fun w1 h1 => x_extract rfl rfl)) ?_
    refine e_exact 6 _ (by kernel_rfl) rfl rfl (by kernel_rfl) rfl (ex_x rfl (fun w1 h1 => x_extract rfl rfl)) ?_
    refine e_exact 7 _ (by kernel_rfl) rfl rfl (by kernel_rfl) rfl (ex_x rfl (fun w1 h1 => x_extract rfl rfl)) ?_
    refine e_exact 8 _ (by kernel_rfl) rfl rfl (by kernel_rfl) rfl (ex_x rfl (fun w1 h1 => x_extract rfl rfl)) ?_
    refine e_exact 9 _ (by kernel_rfl) rfl rfl (by kernel_rfl) rfl (ex_x rfl (fun w1 h1 => x_as rfl)) ?_
    refine e_exact 10 _ (by kernel_rfl) rfl rfl (by kernel_rfl) rfl (ex_x rfl (fun w1 h1 => x_as rfl)) ?_
    refine e_exact 11 _ (by kernel_rfl) rfl rfl (by kernel_rfl) rfl (ex_x rfl (fun w1 h1 => x_as rfl)) ?_
    refine e_exact 12 _ (by kernel_rfl) rfl rfl (by kernel_rfl) rfl (ex_x rfl (fun w1 h1 => x_as rfl)) ?_
    refine e_done (by kernel_rfl) ?_
    refine l_nil ?_
    refine r_seq ?_
    refine r_region ?_
    refine l_x rfl (x_mv rfl) ?_
    refine l_x rfl (x_neg rfl (by omega)) ?_
    refine l_x rfl (x_mv rfl) ?_
    refine l_x rfl (x_mv rfl) ?_
    refine l_x rfl (x_mv rfl) ?_
    refine l_x rfl (x_as rfl) ?_
    refine l_x rfl (x_as rfl) ?_
    refine l_x rfl (x_as rfl) ?_
    refine l_x rfl (x_as rfl) ?_
    refine l_nil ?_
    refine r_ret (rs := [.tmp 4, .tmp 5, .tmp 6, .tmp 7]) [_, _, _, _] Try.func42 rfl ⟨rfl, rfl, rfl, rfl, trivial⟩ ?_
    exact ⟨_, _, _, _, _, _, rfl, S18.pick [3, 4] (by decide) rfl, by rw [Int.neg_neg]; exact hR2317⟩

/-- (couchant/flow.single).weigh. -/
theorem c_weigh (N : Int) (va : Value) (arcs : List Arc) (i : Nat) (k : Int) (hV : Valid N arcs) (hi : i < arcs.length) (w : World) (hA : Rd EA w va arcs) :
    Cl Try.prog 123 #[.agg #[.int .i64 N, va, .int .i64 (i : Int)], .int .i64 k] w fun v w' => New w w' (vec EI v (unit arcs.length i k)) ∧ Le w w' := by
  have hLx := hV.len
  refine fn_of_run (args := [_, _]) 17 Try.func123 rfl rfl rfl fun cs => ?_
  have S := Own.start (X := nob) w
  refine r_seq ?_
  refine r_region ?_
  refine l_box S rfl rfl ?_
  intro b4 w1 S2 hl3
  refine l_x rfl (x_as rfl) ?_
  refine l_nil ?_
  refine r_seq ?_
  refine r_region ?_
  refine l_x rfl (x_fieldAddr rfl Try.runUnderlying94 rfl Try.sizeOf24 (by decide)) ?_
  refine l_x rfl (x_fieldAddr rfl Try.runUnderlying24 rfl Try.sizeOf22 (by decide)) ?_
  refine l_x rfl (x_load rfl (ld_blk (S2.blk 0 rfl) Try.isAgg22 rfl)) ?_
  refine l_x rfl (x_len (hA.le S2.le) rfl Try.runUnderlying22) ?_
  refine l_make EI 0 S2 rfl Try.runUnderlying25 Try.sizeOf3 Try.typeInfo3 Try.zeroValue3 rfl rfl rfl rfl (Nat.le_refl _) (by unfold maxLen; omega) (by show _ * 8 ≤ _; omega) ?_
  intro v8 w5 hv9 S6 hl7
  refine l_x rfl (x_as rfl) ?_
  refine l_nil ?_
  refine r_seq ?_
  refine r_region ?_
  refine l_x rfl (x_mv rfl) ?_
  refine l_x rfl (x_fieldAddr rfl Try.runUnderlying94 rfl Try.sizeOf3 (by decide)) ?_
  refine l_x rfl (x_load rfl (ld_blk (S6.blk 0 rfl) Try.isAgg3 rfl)) ?_
  refine l_x rfl (x_mv rfl) ?_
  refine l_index EI rfl (vec_rd (S6.at 1 rfl)) rfl rfl Try.runUnderlying25 Try.sizeOf3 (by omega) (List.getElem?_eq_getElem (by rw [List.length_replicate]; omega)) ?_
  intro b10 o11 hat12 row13
  refine l_storevi (f := 0) S6 1 rfl rfl hat12 rfl rfl Try.sizeOf3 (List.getElem?_eq_getElem (by rw [List.length_replicate]; omega)) (by decide) rfl ?_
  intro w14 S15 hk16
  refine l_nil ?_
  refine r_seq ?_
  refine r_region ?_
  refine l_x rfl (x_mv rfl) ?_
  refine l_x rfl (x_as rfl) ?_
  refine l_nil ?_
  refine r_ret (rs := [.tmp 4]) [_] Try.func123 rfl ⟨rfl, trivial⟩ ?_
  exact ⟨S15.new 1 rfl, S15.le⟩

/-- (couchant/flow.single).low. -/
theorem c_low (N : Int) (va : Value) (arcs : List Arc) (i : Nat) (hV : Valid N arcs) (hi : i < arcs.length) (w : World) (hA : Rd EA w va arcs) :
    Cl Try.prog 75 #[.agg #[.int .i64 N, va, .int .i64 (i : Int)]] w fun v w' => ∃ n e, v = .tuple #[.int .i64 n, .int .i64 e] ∧ Le w w' ∧ EndR N arcs i (-1) n e := by
  have hLx := hV.len
  refine fn_of_run (args := [_]) 21 Try.func75 rfl rfl rfl fun cs => ?_
  have S := Own.start (X := nob) w
  refine r_seq ?_
  refine r_region ?_
  refine l_box S rfl rfl ?_
  intro b4 w1 S2 hl3
  refine l_x rfl (x_as rfl) ?_
  refine l_x rfl (x_as rfl) ?_
  refine l_nil ?_
  refine r_seq ?_
  refine r_drawE 14 nob Try.mixed (by kernel_rfl) ?_
  intro w5 hl6
  have S7 := S2.step hl6
  refine e_exact 0 _ (by kernel_rfl) rfl rfl (by kernel_rfl) rfl (ex_x rfl (fun w1 h1 => x_fieldAddr rfl Try.runUnderlying94 rfl Try.sizeOf24 (by decide))) ?_
  refine e_exact 1 _ (by kernel_rfl) rfl rfl (by kernel_rfl) rfl (ex_x rfl (fun w1 h1 => x_load rfl (ld_blks ((S7.step h1).blk 0 rfl) Try.isAgg24 Try.sizeOf24 rfl rfl))) ?_
  refine e_exact 2 _ (by kernel_rfl) rfl rfl (by kernel_rfl) rfl (ex_x rfl (fun w1 h1 => x_load rfl (ld_blks ((S7.step h1).blk 0 rfl) Try.isAgg94 Try.sizeOf94 rfl rfl))) ?_
  refine e_next [3] (by kernel_rfl) (by kernel_rfl) ⟨⟨_, _, rfl, rfl, ?_⟩, trivial⟩
  refine s_callf [] [] [_, _] rfl rfl Try.call123 rfl ((c_weigh N va arcs i _ hV hi _ (hA.le S7.le)).mono ?_)
  rintro v128 w8 ⟨hN128, hl128⟩
  have S9 := S7.add hl128 hN128
  refine ⟨.of_le hl128, ?_⟩
  refine e_next [4] (by kernel_rfl) (by kernel_rfl) ⟨⟨_, _, rfl, rfl, ?_⟩, trivial⟩
  refine s_callf [] [] [_, _] rfl rfl Try.call22 rfl ((c_Greatest N va arcs _ _ (by first | omega | (rw [unit_length]; omega) | (rw [List.length_map]; omega) | (rw [List.length_replicate]; omega)) _ (hA.le S9.le) (vec_rd (S9.at 1 rfl))).mono ?_)
  rintro _ w10 ⟨n1310, vx1310, x1310, vp1310, p1310, e1310, rfl, hO1310, hR1310⟩
  have S11 := S9.join hO1310
  refine ⟨.of_le hO1310.le, ?_⟩
  have hb1310 := hR1310.bd
  refine e_exact 5 _ (by kernel_rfl) rfl rfl (by kernel_rfl) rfl (ex_x rfl (fun w1 h1 => x_mv rfl)) ?_
  refine e_exact 6 _ (by kernel_rfl) rfl rfl (by kernel_rfl) rfl (ex_x rfl (fun w1 h1 => x_extract rfl rfl)) ?_
  refine e_exact 7 _ (by kernel_rfl) rfl rfl (by kernel_rfl) rfl (ex_x rfl (fun w1 h1 => x_extract rfl rfl)) ?_
  refine e_exact 8 _ (by kernel_rfl) rfl rfl (by kernel_rfl) rfl (ex_x rfl (fun w1 h1 => x_extract rfl rfl)) ?_
  refine e_exact 9 _ (by kernel_rfl) rfl rfl (by kernel_rfl) rfl (ex_x rfl (fun w1 h1 => x_extract rfl rfl)) ?_
  refine e_exact 10 _ (by kernel_rfl) rfl rfl (by kernel_rfl) rfl (ex_x rfl (fun w1 h1 => x_as rfl)) ?_
  refine e_exact 11 _ (by kernel_rfl) rfl rfl (by kernel_rfl) rfl (ex_x rfl (fun w1 h1 => x_as rfl)) ?_
  refine e_exact 12 _ (by kernel_rfl) rfl rfl (by kernel_rfl) rfl (ex_x rfl (fun w1 h1 => x_as rfl)) ?_
  refine e_exact 13 _ (by kernel_rfl) rfl rfl (by kernel_rfl) rfl (ex_x rfl (fun w1 h1 => x_as rfl)) ?_
  refine e_done (by kernel_rfl) ?_
  refine l_nil ?_
  refine r_seq ?_
  refine r_region ?_
  refine l_x rfl (x_mv rfl) ?_
  refine l_x rfl (x_neg rfl (by omega)) ?_
  refine l_x rfl (x_mv rfl) ?_
  refine l_x rfl (x_as rfl) ?_
  refine l_x rfl (x_as rfl) ?_
  refine l_nil ?_
  refine r_ret (rs := [.tmp 2, .tmp 3]) [_, _] Try.func75 rfl ⟨rfl, rfl, trivial⟩ ?_
  exact ⟨_, _, rfl, S11.le, hR1310.low hV hi⟩

/-- (couchant/flow.single).high. -/
theorem c_high (N : Int) (va : Value) (arcs : List Arc) (i : Nat) (hV : Valid N arcs) (hi : i < arcs.length) (w : World) (hA : Rd EA w va arcs) :
    Cl Try.prog 76 #[.agg #[.int .i64 N, va, .int .i64 (i : Int)]] w fun v w' => ∃ n e, v = .tuple #[.int .i64 n, .int .i64 e] ∧ Le w w' ∧ EndR N arcs i (1) n e := by
  have hLx := hV.len
  refine fn_of_run (args := [_]) 20 Try.func76 rfl rfl rfl fun cs => ?_
  have S := Own.start (X := nob) w
  refine r_seq ?_
  refine r_region ?_
  refine l_box S rfl rfl ?_
  intro b4 w1 S2 hl3
  refine l_x rfl (x_as rfl) ?_
  refine l_x rfl (x_as rfl) ?_
  refine l_nil ?_
  refine r_seq ?_
  refine r_drawE 14 nob Try.mixed (by kernel_rfl) ?_
  intro w5 hl6
  have S7 := S2.step hl6
  refine e_exact 0 _ (by kernel_rfl) rfl rfl (by kernel_rfl) rfl (ex_x rfl (fun w1 h1 => x_fieldAddr rfl Try.runUnderlying94 rfl Try.sizeOf24 (by decide))) ?_
  refine e_exact 1 _ (by kernel_rfl) rfl rfl (by kernel_rfl) rfl (ex_x rfl (fun w1 h1 => x_load rfl (ld_blks ((S7.step h1).blk 0 rfl) Try.isAgg24 Try.sizeOf24 rfl rfl))) ?_
  refine e_exact 2 _ (by kernel_rfl) rfl rfl (by kernel_rfl) rfl (ex_x rfl (fun w1 h1 => x_load rfl (ld_blks ((S7.step h1).blk 0 rfl) Try.isAgg94 Try.sizeOf94 rfl rfl))) ?_
  refine e_next [3] (by kernel_rfl) (by kernel_rfl) ⟨⟨_, _, rfl, rfl, ?_⟩, trivial⟩
  refine s_callf [] [] [_, _] rfl rfl Try.call123 rfl ((c_weigh N va arcs i _ hV hi _ (hA.le S7.le)).mono ?_)
  rintro v128 w8 ⟨hN128, hl128⟩
  have S9 := S7.add hl128 hN128
  refine ⟨.of_le hl128, ?_⟩
  refine e_next [4] (by kernel_rfl) (by kernel_rfl) ⟨⟨_, _, rfl, rfl, ?_⟩, trivial⟩
  refine s_callf [] [] [_, _] rfl rfl Try.call22 rfl ((c_Greatest N va arcs _ _ (by first | omega | (rw [unit_length]; omega) | (rw [List.length_map]; omega) | (rw [List.length_replicate]; omega)) _ (hA.le S9.le) (vec_rd (S9.at 1 rfl))).mono ?_)
  rintro _ w10 ⟨n1310, vx1310, x1310, vp1310, p1310, e1310, rfl, hO1310, hR1310⟩
  have S11 := S9.join hO1310
  refine ⟨.of_le hO1310.le, ?_⟩
  have hb1310 := hR1310.bd
  refine e_exact 5 _ (by kernel_rfl) rfl rfl (by kernel_rfl) rfl (ex_x rfl (fun w1 h1 => x_mv rfl)) ?_
  refine e_exact 6 _ (by kernel_rfl) rfl rfl (by kernel_rfl) rfl (ex_x rfl (fun w1 h1 => x_extract rfl rfl)) ?_
  refine e_exact 7 _ (by kernel_rfl) rfl rfl (by kernel_rfl) rfl (ex_x rfl (fun w1 h1 => x_extract rfl rfl)) ?_
  refine e_exact 8 _ (by kernel_rfl) rfl rfl (by kernel_rfl) rfl (ex_x rfl (fun w1 h1 => x_extract rfl rfl)) ?_
  refine e_exact 9 _ (by kernel_rfl) rfl rfl (by kernel_rfl) rfl (ex_x rfl (fun w1 h1 => x_extract rfl rfl)) ?_
  refine e_exact 10 _ (by kernel_rfl) rfl rfl (by kernel_rfl) rfl (ex_x rfl (fun w1 h1 => x_as rfl)) ?_
  refine e_exact 11 _ (by kernel_rfl) rfl rfl (by kernel_rfl) rfl (ex_x rfl (fun w1 h1 => x_as rfl)) ?_
  refine e_exact 12 _ (by kernel_rfl) rfl rfl (by kernel_rfl) rfl (ex_x rfl (fun w1 h1 => x_as rfl)) ?_
  refine e_exact 13 _ (by kernel_rfl) rfl rfl (by kernel_rfl) rfl (ex_x rfl (fun w1 h1 => x_as rfl)) ?_
  refine e_done (by kernel_rfl) ?_
  refine l_nil ?_
  refine r_seq ?_
  refine r_region ?_
  refine l_x rfl (x_mv rfl) ?_
  refine l_x rfl (x_mv rfl) ?_
  refine l_x rfl (x_as rfl) ?_
  refine l_x rfl (x_as rfl) ?_
  refine l_nil ?_
  refine r_ret (rs := [.tmp 2, .tmp 3]) [_, _] Try.func76 rfl ⟨rfl, rfl, trivial⟩ ?_
  exact ⟨_, _, rfl, S11.le, hR1310.high hV hi⟩

/-- couchant/flow.Range$1. -/
theorem c_Range1 (N : Int) (va : Value) (arcs : List Arc) (i : Int) (b0 b1 : Nat) (hV : Valid N arcs) (w : World) (h0 : Blk w b0 [.int .i64 i] 3) (h1 : Blk w b1 [.int .i64 N, va] 24) (hA : Rd EA w va arcs) :
    Cl Try.prog 74 #[.pointer (some ⟨b0, 0, none⟩), .pointer (some ⟨b1, 0, none⟩)] w fun v w' => v = .bool (inb arcs i) ∧ Le w w' := by
  have hLx := hV.len
  refine fn_of_run (args := [_, _]) 9 Try.func74 rfl rfl rfl fun cs => ?_
  have S := Own.start (X := nob) w
  refine r_seq ?_
  refine r_region ?_
  refine l_x rfl (x_as rfl) ?_
  refine l_nil ?_
  refine r_seq ?_
  refine r_region ?_
  refine l_x rfl (x_load rfl (ld_blk (h0.keep S.le id) Try.isAgg3 rfl)) ?_
  refine l_x rfl (x_fieldAddr rfl Try.runUnderlying24 rfl Try.sizeOf22 (by decide)) ?_
  refine l_x rfl (x_load rfl (ld_blk (h1.keep S.le id) Try.isAgg22 rfl)) ?_
  refine l_x rfl (x_len (hA.le S.le) rfl Try.runUnderlying22) ?_
  refine l_x rfl (x_sub rfl rfl (by omega)) ?_
  refine l_call [] [] [_, _, _] rfl rfl Try.call64 rfl (c_in _ _ _ _) ?_
  rintro _ w1 ⟨rfl, hl3⟩
  have S2 := S.step hl3
  refine l_x rfl (x_as rfl) ?_
  refine l_nil ?_
  refine r_ret (rs := [.tmp 2]) [_] Try.func74 rfl ⟨rfl, trivial⟩ ?_
  exact ⟨congrArg Value.bool (by simp only [inb]), S2.le⟩

theorem zcR : (#[.int .i64 0, .int .i64 0] : Array Value) = (tab 2 fun _ => 0).toArray := rfl

/-- couchant/flow.Range. -/
theorem c_Range (N : Int) (va : Value) (arcs : List Arc) (i : Int) (w : World) (hA : Rd EA w va arcs) :
    Cl Try.prog 23 #[.agg #[.int .i64 N, va], .int .i64 i] w fun v w' => ∃ lo hi e, v = .tuple #[.int .i64 lo, .int .i64 hi, .int .i64 e] ∧ Le w w' ∧ RaR N arcs i lo hi e := by
  refine fn_of_run (args := [_, _]) 47 Try.func23 rfl rfl rfl fun cs => ?_
  have S := Own.start (X := nob) w
  refine r_seq ?_
  refine r_region ?_
  refine l_box S rfl rfl ?_
  intro b4 w1 S2 hl3
  refine l_box S2 rfl rfl ?_
  intro b8 w5 S6 hl7
  refine l_x rfl (x_as rfl) ?_
  refine l_x rfl (x_as rfl) ?_
  refine l_x rfl (x_as rfl) ?_
  refine l_nil ?_
  refine r_seq ?_
  refine r_seq ?_
  refine r_region ?_
  refine l_x rfl (x_load rfl (ld_blks (S6.blk 0 rfl) Try.isAgg24 Try.sizeOf24 rfl rfl)) ?_
  refine l_x rfl (x_func rfl rfl) ?_
  refine l_call [] [] [_, _] rfl rfl Try.call62 rfl (c_asked N va arcs (inb arcs i) 74 [_, _] _ (hA.le S6.le) Try.call74 (fun hv w1 h1 => c_Range1 N va arcs i _ _ (chk_zero.1 hv) w1 ((S6.blk 1 rfl).keep h1 id) ((S6.blk 0 rfl).keep h1 id) (hA.le (S6.le.trans h1)))) ?_
  rintro _ w9 ⟨rfl, hl11⟩
  have S10 := S6.step hl11
  refine l_x rfl (x_as rfl) ?_
  refine l_nil ?_
  refine r_seq ?_
  refine r_region ?_
  refine l_x rfl (x_mv rfl) ?_
  refine l_x rfl (x_neq rfl rfl) ?_
  refine l_nil ?_
  refine r_ifd rfl (fun hc16 => ?_) (fun hc16 => ?_)
  · skip
    refine r_seq ?_
    refine r_region ?_
    refine l_x rfl (x_mv rfl) ?_
    refine l_x rfl (x_as rfl) ?_
    refine l_x rfl (x_as rfl) ?_
    refine l_x rfl (x_as rfl) ?_
    refine l_nil ?_
    refine r_ret (rs := [.tmp 4, .tmp 5, .tmp 6]) [_, _, _] Try.func23 rfl ⟨rfl, rfl, rfl, trivial⟩ ?_
    exact ⟨_, _, _, rfl, S10.le, .bad hc16⟩
  · skip
    have h0 := Decidable.not_not.1 hc16
    obtain ⟨hV, hi0, hi1⟩ := aski_zero.1 h0
    have hLx := hV.len
    refine r_skip ?_
    refine r_seq ?_
    refine r_region ?_
    refine l_x rfl (x_load rfl (ld_blks (S10.blk 0 rfl) Try.isAgg24 Try.sizeOf24 rfl rfl)) ?_
    refine l_x rfl (x_load rfl (ld_blk (S10.blk 1 rfl) Try.isAgg3 rfl)) ?_
    refine l_x rfl (x_buildS (out := [_, _, _]) (ss := [2, 1]) Try.zeroValue94 rfl Try.runUnderlying94 ⟨Try.sizeOf24, Try.sizeOf3, trivial⟩ (fill_cons rfl rfl rfl (Nat.le_of_ble_eq_true rfl) (fill_cons rfl rfl rfl (Nat.le_of_ble_eq_true rfl) fill_nil))) ?_
    refine l_alloc S10 rfl Try.zeroValue94 rfl ?_
    intro b15 w12 S13 hl14
    refine l_stores (vs := [_, _, _]) S13 2 rfl rfl rfl rfl (ones_cons rfl (ones_cons (Rd.one (hA.le S13.le)) (ones_cons rfl ones_nil))) Try.sizeOf94 (by first | exact Nat.le_refl _ | simp) (splice_all rfl) ?_
    intro w16 S17 hk18
    refine l_nil ?_
    refine r_seq ?_
    refine r_region ?_
    refine l_alloc S17 rfl Try.zeroValue95 zcR ?_
    intro b22 w19 S20 hl21
    refine l_nil ?_
    refine r_seq ?_
    refine r_seq ?_
    refine r_region ?_
    refine l_x rfl (x_load rfl (ld_blks (S20.blk 2 rfl) Try.isAgg94 Try.sizeOf94 rfl rfl)) ?_
    refine l_x rfl (x_func rfl rfl) ?_
    refine l_x rfl (x_load rfl (ld_blks (S20.blk 2 rfl) Try.isAgg94 Try.sizeOf94 rfl rfl)) ?_
    refine l_x rfl (x_func rfl rfl) ?_
    refine l_buildSlice (fnE 96 (.agg #[.int .i64 N, va, .int .i64 i])) [75, 76] S20 rfl Try.runUnderlying97 Try.sizeOf96 Try.zeroValue96 rfl ⟨rfl, rfl, rfl, rfl, trivial⟩ (Nat.le_of_ble_eq_true rfl) ?_
    intro v26 w23 S24 hl25
    refine l_x rfl (x_len (vec_rd (S24.at 4 rfl)) rfl Try.runUnderlying97) ?_
    refine l_x rfl (x_mv rfl) ?_
    refine l_nil ?_
    refine r_block ?_
    refine r_loop (G := Nat × (Nat → Int)) (fun ⟨j, f⟩ => 2 - j) (fun ⟨j, f⟩ => [(8, .pointer (some ⟨b15, 0, none⟩)), (9, .pointer (some ⟨b22, 0, none⟩)), (25, v26), (27, .int .i64 j), (26, .int .i64 2)]) (fun ⟨j, f⟩ w' => (j ≤ 2) ∧ (∀ q, q < j → EndR N arcs i.toNat (sgn q) (f q) 0) ∧ Own nob w w' [blk b4 [.int .i64 N, va] 24, blk b8 [.int .i64 i] 3, blk b15 [.int .i64 N, va, .int .i64 i] 94, blk b22 (tab 2 f) 95, vec (fnE 96 (.agg #[.int .i64 N, va, .int .i64 i])) v26 [75, 76]]) (0, fun _ => 0) ⟨rfl, rfl, rfl, rfl, rfl, trivial⟩ ⟨Nat.zero_le _, fun j h => absurd h (Nat.not_lt_zero j), S24⟩ ?_
    rintro ⟨j, f⟩ ρ w1a ⟨hj, hE, S1a⟩ IHa
    refine r_seq ?_
    refine r_region ?_
    refine l_x rfl (x_lss rfl rfl) ?_
    refine l_nil ?_
    refine r_seq ?_
    refine r_ifd rfl (fun hc28 => ?_) (fun hc28 => ?_)
    · skip
      have hj2 : j < 2 := by omega
      obtain ⟨k, hk⟩ : ∃ k, ([75, 76] : List Nat)[j]? = some k := ⟨_, List.getElem?_eq_getElem (by simpa using hj2)⟩
      have hk0 : (∀ args w, (callFunc k args).run Try.prog w = .ok (.enter k args) w) ∧ ∀ w1, Le w w1 → Cl Try.prog k #[.agg #[.int .i64 N, va, .int .i64 i]] w1 fun v w2 => ∃ n e, v = .tuple #[.int .i64 n, .int .i64 e] ∧ Le w1 w2 ∧ EndR N arcs i.toNat (sgn j) n e := by
        have hi0 : ((i.toNat : Nat) : Int) = i := by omega
        rcases Nat.eq_zero_or_pos j with h | h
        · subst h
          simp at hk
          subst hk
          refine ⟨Try.call75, fun w1 h1 => ?_⟩
          have := c_low N va arcs i.toNat hV (by omega) w1 (hA.le h1)
          rw [hi0] at this; exact this
        · have h1 : j = 1 := by omega
          subst h1
          simp at hk
          subst hk
          refine ⟨Try.call76, fun w1 h1 => ?_⟩
          have := c_high N va arcs i.toNat hV (by omega) w1 (hA.le h1)
          rw [hi0] at this; exact this
      refine r_skip ?_
      refine r_seq ?_
      refine r_block ?_
      refine r_seq ?_
      refine r_region ?_
      refine l_x rfl (x_mv rfl) ?_
      refine l_index (fnE 96 (.agg #[.int .i64 N, va, .int .i64 i])) rfl (vec_rd (S1a.at 4 rfl)) rfl rfl Try.runUnderlying97 Try.sizeOf96 (by omega) hk ?_
      intro b27 o28 hat29 row30
      refine l_x rfl (x_load rfl (ld_cell Try.isAgg96 (row30 0 _ rfl))) ?_
      refine l_x rfl (x_as rfl) ?_
      refine l_x rfl (x_as rfl) ?_
      refine l_nil ?_
      refine r_seq ?_
      refine r_region ?_
      refine l_x rfl (x_mv rfl) ?_
      refine l_x rfl (x_mv rfl) ?_
      refine l_call [_] [] [_] rfl rfl hk0.1 rfl (hk0.2 _ S1a.le) ?_
      rintro _ w31 ⟨n0, e0, rfl, hl0, hE0⟩
      have S32 := S1a.step hl0
      refine l_x rfl (x_mv rfl) ?_
      refine l_x rfl (x_extract rfl rfl) ?_
      refine l_x rfl (x_extract rfl rfl) ?_
      refine l_x rfl (x_indexAddr_array rfl rfl Try.runUnderlying95 Try.sizeOf3 (by omega)) ?_
      refine l_storeq S32 3 rfl rfl rfl rfl rfl Try.sizeOf3 (tabs_lt rfl (by omega)) (tabs_set rfl (by omega)) ?_
      intro w33 S34 hk35
      refine l_x rfl (x_as rfl) ?_
      refine l_nil ?_
      refine r_seq ?_
      refine r_region ?_
      refine l_x rfl (x_mv rfl) ?_
      refine l_x rfl (x_neq rfl rfl) ?_
      refine l_nil ?_
      refine r_ifd rfl (fun hc40 => ?_) (fun hc40 => ?_)
      · skip
        refine r_seq ?_
        refine r_region ?_
        refine l_x rfl (x_mv rfl) ?_
        refine l_x rfl (x_as rfl) ?_
        refine l_x rfl (x_as rfl) ?_
        refine l_x rfl (x_as rfl) ?_
        refine l_nil ?_
        refine r_ret (rs := [.tmp 4, .tmp 5, .tmp 6]) [_, _, _] Try.func23 rfl ⟨rfl, rfl, rfl, trivial⟩ ?_
        obtain ⟨he60, hno⟩ := hE0.cut hc40
        exact ⟨_, _, _, rfl, S34.le, by rw [he60]; exact .no h0 hno⟩
      · skip
        refine r_skip ?_
        refine r_inBlock ?_
        refine r_region ?_
        refine l_x rfl (x_add rfl rfl (by omega)) ?_
        refine l_x rfl (x_mv rfl) ?_
        refine l_nil ?_
        exact IHa (j + 1, upf f j n0) _ _ (by dsimp only; omega) ⟨rfl, rfl, rfl, rfl, rfl, trivial⟩ ⟨by omega, Ends.more hE hE0 (Decidable.not_not.1 hc40), S34⟩
    · skip
      have hj2 : j = 2 := by omega
      subst hj2
      refine r_exit rfl ?_
      refine r_seq ?_
      refine r_drawR 7 Try.mixed (by kernel_rfl) ?_
      refine w_x rfl (fun w1 h1 => x_indexAddr_array rfl rfl Try.runUnderlying95 Try.sizeOf3 (by omega)) ?_
      refine w_x rfl (fun w1 h1 => x_load rfl (ld_blk ((S1a.step h1).blk 3 rfl) Try.isAgg3 (tabs_get rfl (by omega)))) ?_
      refine w_x rfl (fun w1 h1 => x_indexAddr_array rfl rfl Try.runUnderlying95 Try.sizeOf3 (by omega)) ?_
      refine w_x rfl (fun w1 h1 => x_load rfl (ld_blk ((S1a.step h1).blk 3 rfl) Try.isAgg3 (tabs_get rfl (by omega)))) ?_
      refine w_x rfl (fun w1 h1 => x_as rfl) ?_
      refine w_x rfl (fun w1 h1 => x_as rfl) ?_
      refine w_x rfl (fun w1 h1 => x_as rfl) ?_
      refine w_nil ?_
      intro w36 hl37
      have S38 := S1a.step hl37
      refine l_nil ?_
      refine r_ret (rs := [.tmp 4, .tmp 5, .tmp 6]) [_, _, _] Try.func23 rfl ⟨rfl, rfl, rfl, trivial⟩ ?_
      exact ⟨_, _, _, rfl, S38.le, Ends.done h0 hE⟩

end Go.Proofs

/-
  Contracts of functions of the program: each by symbolic execution of its text.
-/
namespace Go.Proofs
open Go Go.Vk Go.Vk.Flow

/-- couchant/flow.copied[couchant/api.Arc]. -/
theorem c_copiedA (vl : Value) (l : List Arc) (hm : l.length ≤ 100000) (w : World) (Hl : Rd EA w vl l) :
    Cl Try.prog 65 #[vl] w fun v w' => New w w' (vec EA v l) ∧ Le w w' := by
  refine fn_of_run (args := [_]) 6 Try.func65 rfl rfl rfl fun cs => ?_
  have S := Own.start (X := nob) w
  refine r_seq ?_
  refine r_region ?_
  refine l_x rfl (x_as rfl) ?_
  refine l_nil ?_
  refine r_seq ?_
  refine r_region ?_
  refine l_buildSlice EA [] S rfl Try.runUnderlying22 Try.sizeOf39 Try.zeroValue39 rfl trivial (Nat.le_of_ble_eq_true rfl) ?_
  intro v4 w1 S2 hl3
  refine l_x rfl (x_mv rfl) ?_
  refine l_append EA S2 0 rfl rfl rfl rfl (Hl.le S2.le) Try.underlying22 info39 rfl rfl rfl (by unfold maxLen; rw [List.length_nil]; omega) (by show _ * 48 ≤ _; rw [List.length_nil]; omega) ?_
  intro v8 w5 S6 hk7 hv9
  refine l_x rfl (x_as rfl) ?_
  refine l_nil ?_
  refine r_ret (rs := [.tmp 2]) [_] Try.func65 rfl ⟨rfl, trivial⟩ ?_
  exact ⟨by have hS := S6; rw [List.nil_append] at hS; exact hS.new 0 rfl, S6.le⟩

/-- couchant/flow.copied[int]. -/
theorem c_copiedI (vl : Value) (l : List Int) (hm : l.length ≤ 100000) (w : World) (Hl : Rd EI w vl l) :
    Cl Try.prog 115 #[vl] w fun v w' => New w w' (vec EI v l) ∧ Le w w' := by
  refine fn_of_run (args := [_]) 6 Try.func115 rfl rfl rfl fun cs => ?_
  have S := Own.start (X := nob) w
  refine r_seq ?_
  refine r_region ?_
  refine l_x rfl (x_as rfl) ?_
  refine l_nil ?_
  refine r_seq ?_
  refine r_region ?_
  refine l_buildSlice EI [] S rfl Try.runUnderlying25 Try.sizeOf3 Try.zeroValue3 rfl trivial (Nat.le_of_ble_eq_true rfl) ?_
  intro v4 w1 S2 hl3
  refine l_x rfl (x_mv rfl) ?_
  refine l_append EI S2 0 rfl rfl rfl rfl (Hl.le S2.le) Try.underlying25 info3 rfl rfl rfl (by unfold maxLen; rw [List.length_nil]; omega) (by show _ * 8 ≤ _; rw [List.length_nil]; omega) ?_
  intro v8 w5 S6 hk7 hv9
  refine l_x rfl (x_as rfl) ?_
  refine l_nil ?_
  refine r_ret (rs := [.tmp 2]) [_] Try.func115 rfl ⟨rfl, trivial⟩ ?_
  exact ⟨by have hS := S6; rw [List.nil_append] at hS; exact hS.new 0 rfl, S6.le⟩

/-- couchant/flow.Narrow$1. -/
theorem c_Narrow1 (N : Int) (va : Value) (arcs : List Arc) (i : Int) (lo : Int) (hi : Int) (r : Int) (b0 b1 b2 b3 b4 : Nat) (hV : Valid N arcs) (w : World) (h0 : Blk w b0 [.int .i64 i] 3) (h1 : Blk w b1 [.int .i64 N, va] 24) (h2 : Blk w b2 [.int .i64 lo] 3) (h3 : Blk w b3 [.int .i64 hi] 3) (h4 : Blk w b4 [.int .i64 r] 3) (hA : Rd EA w va arcs) :
    Cl Try.prog 63 #[.pointer (some ⟨b0, 0, none⟩), .pointer (some ⟨b1, 0, none⟩), .pointer (some ⟨b2, 0, none⟩), .pointer (some ⟨b3, 0, none⟩), .pointer (some ⟨b4, 0, none⟩)] w fun v w' => v = .bool (inb arcs i && rg lo 1000000 && rg hi 1000000 && rg r 1000000) ∧ Le w w' := by
  have hLx := hV.len
  refine fn_of_run (args := [_, _, _, _, _]) 24 Try.func63 rfl rfl rfl fun cs => ?_
  have S := Own.start (X := nob) w
  refine r_seq ?_
  refine r_region ?_
  refine l_x rfl (x_as rfl) ?_
  refine l_nil ?_
  refine r_seq ?_
  refine r_region ?_
  refine l_x rfl (x_load rfl (ld_blk (h0.keep S.le id) Try.isAgg3 rfl)) ?_
  refine l_x rfl (x_fieldAddr rfl Try.runUnderlying24 rfl Try.sizeOf22 (by decide)) ?_
  refine l_x rfl (x_load rfl (ld_blk (h1.keep S.le id) Try.isAgg22 rfl)) ?_
  refine l_x rfl (x_len (hA.le S.le) rfl Try.runUnderlying22) ?_
  refine l_x rfl (x_sub rfl rfl (by omega)) ?_
  refine l_call [] [] [_, _, _] rfl rfl Try.call64 rfl (c_in _ _ _ _) ?_
  rintro _ w1 ⟨rfl, hl3⟩
  have S2 := S.step hl3
  refine l_x rfl (x_mv rfl) ?_
  refine l_splitd (d := 12) rfl (fun hg12 => ?_) (fun hg12 => ?_)
  · skip
    refine l_x rfl (x_load rfl (ld_blk (h2.keep S2.le id) Try.isAgg3 rfl)) ?_
    refine l_call [] [] [_, _, _] rfl rfl Try.call64 rfl (c_in _ _ _ _) ?_
    rintro _ w4 ⟨rfl, hl6⟩
    have S5 := S2.step hl6
    refine l_x rfl (x_pick_t rfl rfl) ?_
    refine l_x rfl (x_mv rfl) ?_
    refine l_splitd (d := 16) rfl (fun hg16 => ?_) (fun hg16 => ?_)
    · skip
      refine l_x rfl (x_load rfl (ld_blk (h3.keep S5.le id) Try.isAgg3 rfl)) ?_
      refine l_call [] [] [_, _, _] rfl rfl Try.call64 rfl (c_in _ _ _ _) ?_
      rintro _ w7 ⟨rfl, hl9⟩
      have S8 := S5.step hl9
      refine l_x rfl (x_pick_t rfl rfl) ?_
      refine l_x rfl (x_mv rfl) ?_
      refine l_splitd (d := 20) rfl (fun hg20 => ?_) (fun hg20 => ?_)
      · skip
        refine l_x rfl (x_load rfl (ld_blk (h4.keep S8.le id) Try.isAgg3 rfl)) ?_
        refine l_call [] [] [_, _, _] rfl rfl Try.call64 rfl (c_in _ _ _ _) ?_
        rintro _ w10 ⟨rfl, hl12⟩
        have S11 := S8.step hl12
        refine l_x rfl (x_pick_t rfl rfl) ?_
        refine l_x rfl (x_as rfl) ?_
        refine l_nil ?_
        refine r_ret (rs := [.tmp 5]) [_] Try.func63 rfl ⟨rfl, trivial⟩ ?_
        exact ⟨congrArg Value.bool (Bool.eq_iff_iff.2 (by simp [inb, rg]; try omega)), S11.le⟩
      · skip
        refine l_pass rfl ?_
        refine l_pass rfl ?_
        refine l_x rfl (x_pick_f rfl rfl) ?_
        refine l_x rfl (x_as rfl) ?_
        refine l_nil ?_
        refine r_ret (rs := [.tmp 5]) [_] Try.func63 rfl ⟨rfl, trivial⟩ ?_
        exact ⟨congrArg Value.bool (Bool.eq_iff_iff.2 (by simp [inb, rg]; try omega)), S8.le⟩
    · skip
      refine l_pass rfl ?_
      refine l_pass rfl ?_
      refine l_x rfl (x_pick_f rfl rfl) ?_
      refine l_x rfl (x_mv rfl) ?_
      refine l_pass rfl ?_
      refine l_pass rfl ?_
      refine l_x rfl (x_pick_f rfl rfl) ?_
      refine l_x rfl (x_as rfl) ?_
      refine l_nil ?_
      refine r_ret (rs := [.tmp 5]) [_] Try.func63 rfl ⟨rfl, trivial⟩ ?_
      exact ⟨congrArg Value.bool (Bool.eq_iff_iff.2 (by simp [inb, rg]; try omega)), S5.le⟩
  · skip
    refine l_pass rfl ?_
    refine l_pass rfl ?_
    refine l_x rfl (x_pick_f rfl rfl) ?_
    refine l_x rfl (x_mv rfl) ?_
    refine l_pass rfl ?_
    refine l_pass rfl ?_
    refine l_x rfl (x_pick_f rfl rfl) ?_
    refine l_x rfl (x_mv rfl) ?_
    refine l_pass rfl ?_
    refine l_pass rfl ?_
    refine l_x rfl (x_pick_f rfl rfl) ?_
    refine l_x rfl (x_as rfl) ?_
    refine l_nil ?_
    refine r_ret (rs := [.tmp 5]) [_] Try.func63 rfl ⟨rfl, trivial⟩ ?_
    exact ⟨congrArg Value.bool (Bool.eq_iff_iff.2 (by simp [inb, rg]; try omega)), S2.le⟩

set_option maxHeartbeats 4000000 in
/-- couchant/flow.Narrow. -/
theorem c_Narrow (N : Int) (va : Value) (arcs : List Arc) (i lo hi r : Int) (w : World) (hA : Rd EA w va arcs) :
    Cl Try.prog 20 #[.agg #[.int .i64 N, va], .int .i64 i, .int .i64 lo, .int .i64 hi, .int .i64 r] w fun v w' => ∃ vh, v = .tuple #[.agg #[.int .i64 (if narE N arcs i lo hi r = 0 then N else 0), vh], .int .i64 (narE N arcs i lo hi r)] ∧ New w w' (vec EA vh (if narE N arcs i lo hi r = 0 then nar arcs i.toNat lo hi r else [])) ∧ Le w w' := by
  refine fn_of_run (args := [_, _, _, _, _]) 61 Try.func20 rfl rfl rfl fun cs => ?_
  have S := Own.start (X := nob) w
  refine r_seq ?_
  refine r_region ?_
  refine l_box S rfl rfl ?_
  intro b4 w1 S2 hl3
  refine l_box S2 rfl rfl ?_
  intro b8 w5 S6 hl7
  refine l_box S6 rfl rfl ?_
  intro b12 w9 S10 hl11
  refine l_box S10 rfl rfl ?_
  intro b16 w13 S14 hl15
  refine l_box S14 rfl rfl ?_
  intro b20 w17 S18 hl19
  refine l_alloc S18 rfl Try.zeroValue24 rfl ?_
  intro b24 w21 S22 hl23
  refine l_x rfl (x_as rfl) ?_
  refine l_nil ?_
  refine r_seq ?_
  refine r_seq ?_
  refine r_region ?_
  refine l_x rfl (x_load rfl (ld_blks (S22.blk 0 rfl) Try.isAgg24 Try.sizeOf24 rfl rfl)) ?_
  refine l_x rfl (x_func rfl rfl) ?_
  refine l_call [] [] [_, _] rfl rfl Try.call62 rfl (c_asked N va arcs (inb arcs i && rg lo 1000000 && rg hi 1000000 && rg r 1000000) 63 [_, _, _, _, _] _ (hA.le S22.le) Try.call63 (fun hv w1 h1 => c_Narrow1 N va arcs i lo hi r _ _ _ _ _ (chk_zero.1 hv) w1 ((S22.blk 1 rfl).keep h1 id) ((S22.blk 0 rfl).keep h1 id) ((S22.blk 2 rfl).keep h1 id) ((S22.blk 3 rfl).keep h1 id) ((S22.blk 4 rfl).keep h1 id) (hA.le (S22.le.trans h1)))) ?_
  rintro _ w25 ⟨rfl, hl27⟩
  have S26 := S22.step hl27
  refine l_x rfl (x_as rfl) ?_
  refine l_nil ?_
  refine r_seq ?_
  refine r_region ?_
  refine l_x rfl (x_mv rfl) ?_
  refine l_x rfl (x_neq rfl rfl) ?_
  refine l_nil ?_
  refine r_ifd rfl (fun hc19 => ?_) (fun hc19 => ?_)
  · skip
    change ¬ narE N arcs i lo hi r = 0 at hc19
    refine r_seq ?_
    refine r_region ?_
    refine l_x rfl (x_buildS (out := [_, _]) (ss := [1, 1]) Try.zeroValue24 rfl Try.runUnderlying24 ⟨Try.sizeOf3, Try.sizeOf22, trivial⟩ fill_nil) ?_
    refine l_x rfl (x_mv rfl) ?_
    refine l_stores (vs := [_, _]) S26 5 rfl rfl rfl rfl (ones_cons rfl (ones_cons rfl ones_nil)) Try.sizeOf24 (by first | exact Nat.le_refl _ | simp) (splice_all rfl) ?_
    intro w28 S29 hk30
    refine l_x rfl (x_as rfl) ?_
    refine l_nil ?_
    refine r_ret (rs := [.cell 10 24, .tmp 11]) [_, _] Try.func20 rfl ⟨⟨_, rfl, (ld_blks (S29.blk 5 rfl) Try.isAgg24 Try.sizeOf24 rfl rfl)⟩, rfl, trivial⟩ ?_
    exact ⟨.slice none 0 0, by rw [if_neg hc19]; rfl, by rw [if_neg hc19]; exact New.nilvec .., S29.le⟩
  · skip
    have h0 : narE N arcs i lo hi r = 0 := Decidable.not_not.1 hc19
    obtain ⟨hV, hi0, hl0, hh0, hr0⟩ := narE_zero.1 h0
    have hLx := hV.len
    obtain ⟨a, ha0⟩ : ∃ a, arcs[i.toNat]? = some a := ⟨_, List.getElem?_eq_getElem (by omega)⟩
    have hcur := ha0
    refine r_skip ?_
    refine r_seq ?_
    refine r_drawE 7 nob Try.mixed (by kernel_rfl) ?_
    intro w31 hl32
    have S33 := S26.step hl32
    refine e_exact 0 _ (by kernel_rfl) rfl rfl (by kernel_rfl) rfl (ex_x rfl (fun w1 h1 => x_fieldAddr rfl Try.runUnderlying24 rfl Try.sizeOf3 (by decide))) ?_
    refine e_exact 1 _ (by kernel_rfl) rfl rfl (by kernel_rfl) rfl (ex_x rfl (fun w1 h1 => x_load rfl (ld_blk ((S33.step h1).blk 0 rfl) Try.isAgg3 rfl))) ?_
    refine e_exact 2 _ (by kernel_rfl) rfl rfl (by kernel_rfl) rfl (ex_x rfl (fun w1 h1 => x_fieldAddr rfl Try.runUnderlying24 rfl Try.sizeOf22 (by decide))) ?_
    refine e_exact 3 _ (by kernel_rfl) rfl rfl (by kernel_rfl) rfl (ex_x rfl (fun w1 h1 => x_load rfl (ld_blk ((S33.step h1).blk 0 rfl) Try.isAgg22 rfl))) ?_
    refine e_next [4, 6] (by kernel_rfl) (by kernel_rfl) ⟨⟨_, _, rfl, rfl, ?_⟩, ⟨_, _, rfl, rfl, ?_⟩, trivial⟩
    · skip
      refine s_callf [] [] [_] rfl rfl Try.call65 rfl ((c_copiedA _ _ (by omega) _ (hA.le S33.le)).mono ?_)
      rintro v2634 w34 ⟨hN2634, hl2634⟩
      have S35 := S33.add hl2634 hN2634
      refine ⟨.of_le hl2634, ?_⟩
      refine e_exact 5 _ (by kernel_rfl) rfl rfl (by kernel_rfl) rfl (ex_x rfl (fun w1 h1 => x_buildS (out := [_, _]) (ss := [1, 1]) Try.zeroValue24 rfl Try.runUnderlying24 ⟨Try.sizeOf3, Try.sizeOf22, trivial⟩ (fill_cons rfl rfl rfl (Nat.le_of_ble_eq_true rfl) (fill_cons rfl (Rd.cells (vec_rd (S35.at 6 rfl))) rfl (Nat.le_of_ble_eq_true rfl) fill_nil)))) ?_
      refine e_next [6] (by kernel_rfl) (by kernel_rfl) ⟨⟨_, _, rfl, rfl, ?_⟩, trivial⟩
      refine s_alloc S35 rfl Try.zeroValue24 rfl ?_
      intro b39 w36 S37 hl38
      refine ⟨.of_le hl38, ?_⟩
      refine e_done (by kernel_rfl) ?_
      refine l_stores (vs := [_, _]) S37 7 rfl rfl rfl rfl (ones_cons rfl (ones_cons (Rd.one (vec_rd (S37.at 6 rfl))) ones_nil)) Try.sizeOf24 (by first | exact Nat.le_refl _ | simp) (splice_all rfl) ?_
      intro w40 S41 hk42
      refine l_nil ?_
      refine r_seq ?_
      refine r_region ?_
      refine l_x rfl (x_fieldAddr rfl Try.runUnderlying24 rfl Try.sizeOf22 (by decide)) ?_
      refine l_x rfl (x_load rfl (ld_blk (S41.blk 7 rfl) Try.isAgg22 rfl)) ?_
      refine l_x rfl (x_load rfl (ld_blk (S41.blk 1 rfl) Try.isAgg3 rfl)) ?_
      refine l_index EA rfl (vec_rd (S41.at 6 rfl)) rfl rfl Try.runUnderlying22 Try.sizeOf39 (by omega) hcur ?_
      intro b43 o44 hat45 row46
      refine l_x rfl (x_as rfl) ?_
      refine l_nil ?_
      refine r_seq ?_
      refine r_seq ?_
      refine r_drawR 6 Try.mixed (by kernel_rfl) ?_
      refine w_x rfl (fun w1 h1 => x_load rfl (ld_blk ((S41.step h1).blk 2 rfl) Try.isAgg3 rfl)) ?_
      refine w_x rfl (fun w1 h1 => x_mv rfl) ?_
      refine w_x rfl (fun w1 h1 => x_nilCheck rfl) ?_
      refine w_x rfl (fun w1 h1 => x_fieldAddr rfl Try.runUnderlying39 rfl Try.sizeOf3 (by decide)) ?_
      refine w_x rfl (fun w1 h1 => x_load rfl (ld_cell Try.isAgg3 ((rd_row (vec_rd ((S41.step h1).at 6 rfl)) hat45 hcur) 2 _ rfl))) ?_
      refine w_x rfl (fun w1 h1 => x_gtr rfl rfl) ?_
      refine w_nil ?_
      intro w47 hl48
      have S49 := S41.step hl48
      refine l_nil ?_
      refine r_ifd rfl (fun hc37 => ?_) (fun hc37 => ?_)
      · skip
        have hcur1 : (arcs.set i.toNat (⟨a.src, a.dst, lo, a.hi, a.loBy, a.hiBy⟩ : Arc))[i.toNat]? = some ⟨a.src, a.dst, lo, a.hi, a.loBy, a.hiBy⟩ := set_get hcur
        have hcur2 : ((arcs.set i.toNat (⟨a.src, a.dst, lo, a.hi, a.loBy, a.hiBy⟩ : Arc)).set i.toNat (⟨a.src, a.dst, lo, a.hi, r, a.hiBy⟩ : Arc))[i.toNat]? = some ⟨a.src, a.dst, lo, a.hi, r, a.hiBy⟩ := set_get hcur1
        refine r_drawE 7 (Rsc.fp (vec EA v2634 arcs)) Try.mixed (by kernel_rfl) ?_
        intro w50 hl51
        have S52 := S49.step hl51
        refine e_exact 0 _ (by kernel_rfl) rfl rfl (by kernel_rfl) rfl (ex_x rfl (fun w1 h1 => x_mv rfl)) ?_
        refine e_exact 1 _ (by kernel_rfl) rfl rfl (by kernel_rfl) rfl (ex_x rfl (fun w1 h1 => x_mv rfl)) ?_
        refine e_exact 2 _ (by kernel_rfl) rfl rfl (by kernel_rfl) rfl (ex_x rfl (fun w1 h1 => x_load rfl (ld_blk ((S52.under 6 rfl h1).blk 2 rfl) Try.isAgg3 rfl))) ?_
        refine e_exact 3 _ (by kernel_rfl) rfl rfl (by kernel_rfl) rfl (ex_x rfl (fun w1 h1 => x_load rfl (ld_blk ((S52.under 6 rfl h1).blk 4 rfl) Try.isAgg3 rfl))) ?_
        refine e_exact 4 _ (by kernel_rfl) rfl rfl (by kernel_rfl) rfl (ex_x rfl (fun w1 h1 => x_nilCheck rfl)) ?_
        refine e_exact 5 _ (by kernel_rfl) rfl rfl (by kernel_rfl) rfl (ex_x rfl (fun w1 h1 => x_fieldAddr rfl Try.runUnderlying39 rfl Try.sizeOf3 (by decide))) ?_
        refine e_next [6] (by kernel_rfl) (by kernel_rfl) ⟨⟨_, _, rfl, rfl, ?_⟩, trivial⟩
        refine s_storevi (a' := ⟨a.src, a.dst, lo, a.hi, a.loBy, a.hiBy⟩) (f := 2) S52 6 rfl rfl hat45 rfl rfl Try.sizeOf3 hcur (by decide) rfl ?_
        intro w53 S54 hk55
        refine ⟨hk55, ?_⟩
        refine e_done (by kernel_rfl) ?_
        refine l_x rfl (x_nilCheck rfl) ?_
        refine l_x rfl (x_fieldAddr rfl Try.runUnderlying39 rfl Try.sizeOf3 (by decide)) ?_
        refine l_storevi (a' := ⟨a.src, a.dst, lo, a.hi, r, a.hiBy⟩) (f := 4) S54 6 rfl rfl hat45 rfl rfl Try.sizeOf3 hcur1 (by decide) rfl ?_
        intro w56 S57 hk58
        refine l_nil ?_
        refine r_seq ?_
        refine r_seq ?_
        have hcur := hcur2
        refine r_drawR 6 Try.mixed (by kernel_rfl) ?_
        refine w_x rfl (fun w1 h1 => x_load rfl (ld_blk ((S57.step h1).blk 3 rfl) Try.isAgg3 rfl)) ?_
        refine w_x rfl (fun w1 h1 => x_mv rfl) ?_
        refine w_x rfl (fun w1 h1 => x_nilCheck rfl) ?_
        refine w_x rfl (fun w1 h1 => x_fieldAddr rfl Try.runUnderlying39 rfl Try.sizeOf3 (by decide)) ?_
        refine w_x rfl (fun w1 h1 => x_load rfl (ld_cell Try.isAgg3 ((rd_row (vec_rd ((S57.step h1).at 6 rfl)) hat45 hcur) 3 _ rfl))) ?_
        refine w_x rfl (fun w1 h1 => x_lss rfl rfl) ?_
        refine w_nil ?_
        intro w59 hl60
        have S61 := S57.step hl60
        refine l_nil ?_
        refine r_ifd rfl (fun hc51 => ?_) (fun hc51 => ?_)
        · skip
          have hcur3 : (((arcs.set i.toNat (⟨a.src, a.dst, lo, a.hi, a.loBy, a.hiBy⟩ : Arc)).set i.toNat (⟨a.src, a.dst, lo, a.hi, r, a.hiBy⟩ : Arc)).set i.toNat (⟨a.src, a.dst, lo, hi, r, a.hiBy⟩ : Arc))[i.toNat]? = some ⟨a.src, a.dst, lo, hi, r, a.hiBy⟩ := set_get hcur
          refine r_drawE 7 (Rsc.fp (vec EA v2634 ((arcs.set i.toNat (⟨a.src, a.dst, lo, a.hi, a.loBy, a.hiBy⟩ : Arc)).set i.toNat (⟨a.src, a.dst, lo, a.hi, r, a.hiBy⟩ : Arc)))) Try.mixed (by kernel_rfl) ?_
          intro w62 hl63
          have S64 := S61.step hl63
          refine e_exact 0 _ (by kernel_rfl) rfl rfl (by kernel_rfl) rfl (ex_x rfl (fun w1 h1 => x_mv rfl)) ?_
          refine e_exact 1 _ (by kernel_rfl) rfl rfl (by kernel_rfl) rfl (ex_x rfl (fun w1 h1 => x_mv rfl)) ?_
          refine e_exact 2 _ (by kernel_rfl) rfl rfl (by kernel_rfl) rfl (ex_x rfl (fun w1 h1 => x_load rfl (ld_blk ((S64.under 6 rfl h1).blk 3 rfl) Try.isAgg3 rfl))) ?_
          refine e_exact 3 _ (by kernel_rfl) rfl rfl (by kernel_rfl) rfl (ex_x rfl (fun w1 h1 => x_load rfl (ld_blk ((S64.under 6 rfl h1).blk 4 rfl) Try.isAgg3 rfl))) ?_
          refine e_exact 4 _ (by kernel_rfl) rfl rfl (by kernel_rfl) rfl (ex_x rfl (fun w1 h1 => x_nilCheck rfl)) ?_
          refine e_exact 5 _ (by kernel_rfl) rfl rfl (by kernel_rfl) rfl (ex_x rfl (fun w1 h1 => x_fieldAddr rfl Try.runUnderlying39 rfl Try.sizeOf3 (by decide))) ?_
          refine e_next [6] (by kernel_rfl) (by kernel_rfl) ⟨⟨_, _, rfl, rfl, ?_⟩, trivial⟩
          refine s_storevi (a' := ⟨a.src, a.dst, lo, hi, r, a.hiBy⟩) (f := 3) S64 6 rfl rfl hat45 rfl rfl Try.sizeOf3 hcur (by decide) rfl ?_
          intro w65 S66 hk67
          refine ⟨hk67, ?_⟩
          refine e_done (by kernel_rfl) ?_
          refine l_x rfl (x_nilCheck rfl) ?_
          refine l_x rfl (x_fieldAddr rfl Try.runUnderlying39 rfl Try.sizeOf3 (by decide)) ?_
          refine l_storevi (a' := ⟨a.src, a.dst, lo, hi, r, r⟩) (f := 5) S66 6 rfl rfl hat45 rfl rfl Try.sizeOf3 hcur3 (by decide) rfl ?_
          intro w68 S69 hk70
          refine l_nil ?_
          refine r_seq ?_
          refine r_region ?_
          refine l_x rfl (x_load rfl (ld_blks (S69.blk 7 rfl) Try.isAgg24 Try.sizeOf24 rfl rfl)) ?_
          refine l_stores (vs := [_, _]) S69 5 rfl rfl rfl rfl (ones_cons rfl (ones_cons (Rd.one (vec_rd (S69.at 6 rfl))) ones_nil)) Try.sizeOf24 (by first | exact Nat.le_refl _ | simp) (splice_all rfl) ?_
          intro w71 S72 hk73
          refine l_x rfl (x_as rfl) ?_
          refine l_nil ?_
          refine r_ret (rs := [.cell 10 24, .tmp 11]) [_, _] Try.func20 rfl ⟨⟨_, rfl, (ld_blks (S72.blk 5 rfl) Try.isAgg24 Try.sizeOf24 rfl rfl)⟩, rfl, trivial⟩ ?_
          exact ⟨v2634, by rw [if_pos h0, h0]; rfl, by rw [if_pos h0]; have hS := S72; rw [nar11 ha0 (by omega) (by omega)] at hS; exact hS.new 6 rfl, S72.le⟩
        · skip
          refine r_skip ?_
          refine r_seq ?_
          refine r_region ?_
          refine l_x rfl (x_load rfl (ld_blks (S61.blk 7 rfl) Try.isAgg24 Try.sizeOf24 rfl rfl)) ?_
          refine l_stores (vs := [_, _]) S61 5 rfl rfl rfl rfl (ones_cons rfl (ones_cons (Rd.one (vec_rd (S61.at 6 rfl))) ones_nil)) Try.sizeOf24 (by first | exact Nat.le_refl _ | simp) (splice_all rfl) ?_
          intro w74 S75 hk76
          refine l_x rfl (x_as rfl) ?_
          refine l_nil ?_
          refine r_ret (rs := [.cell 10 24, .tmp 11]) [_, _] Try.func20 rfl ⟨⟨_, rfl, (ld_blks (S75.blk 5 rfl) Try.isAgg24 Try.sizeOf24 rfl rfl)⟩, rfl, trivial⟩ ?_
          exact ⟨v2634, by rw [if_pos h0, h0]; rfl, by rw [if_pos h0]; have hS := S75; rw [nar10 ha0 (by omega) (by omega)] at hS; exact hS.new 6 rfl, S75.le⟩
      · skip
        refine r_skip ?_
        refine r_seq ?_
        refine r_seq ?_
        
        refine r_drawR 6 Try.mixed (by kernel_rfl) ?_
        refine w_x rfl (fun w1 h1 => x_load rfl (ld_blk ((S49.step h1).blk 3 rfl) Try.isAgg3 rfl)) ?_
        refine w_x rfl (fun w1 h1 => x_mv rfl) ?_
        refine w_x rfl (fun w1 h1 => x_nilCheck rfl) ?_
        refine w_x rfl (fun w1 h1 => x_fieldAddr rfl Try.runUnderlying39 rfl Try.sizeOf3 (by decide)) ?_
        refine w_x rfl (fun w1 h1 => x_load rfl (ld_cell Try.isAgg3 ((rd_row (vec_rd ((S49.step h1).at 6 rfl)) hat45 hcur) 3 _ rfl))) ?_
        refine w_x rfl (fun w1 h1 => x_lss rfl rfl) ?_
        refine w_nil ?_
        intro w77 hl78
        have S79 := S49.step hl78
        refine l_nil ?_
        refine r_ifd rfl (fun hc51 => ?_) (fun hc51 => ?_)
        · skip
          have hcur3 : (arcs.set i.toNat (⟨a.src, a.dst, a.lo, hi, a.loBy, a.hiBy⟩ : Arc))[i.toNat]? = some ⟨a.src, a.dst, a.lo, hi, a.loBy, a.hiBy⟩ := set_get hcur
          refine r_drawE 7 (Rsc.fp (vec EA v2634 arcs)) Try.mixed (by kernel_rfl) ?_
          intro w80 hl81
          have S82 := S79.step hl81
          refine e_exact 0 _ (by kernel_rfl) rfl rfl (by kernel_rfl) rfl (ex_x rfl (fun w1 h1 => x_mv rfl)) ?_
          refine e_exact 1 _ (by kernel_rfl) rfl rfl (by kernel_rfl) rfl (ex_x rfl (fun w1 h1 => x_mv rfl)) ?_
          refine e_exact 2 _ (by kernel_rfl) rfl rfl (by kernel_rfl) rfl (ex_x rfl (fun w1 h1 => x_load rfl (ld_blk ((S82.under 6 rfl h1).blk 3 rfl) Try.isAgg3 rfl))) ?_
          refine e_exact 3 _ (by kernel_rfl) rfl rfl (by kernel_rfl) rfl (ex_x rfl (fun w1 h1 => x_load rfl (ld_blk ((S82.under 6 rfl h1).blk 4 rfl) Try.isAgg3 rfl))) ?_
          refine e_exact 4 _ (by kernel_rfl) rfl rfl (by kernel_rfl) rfl (ex_x rfl (fun w1 h1 => x_nilCheck rfl)) ?_
          refine e_exact 5 _ (by kernel_rfl) rfl rfl (by kernel_rfl) rfl (ex_x rfl (fun w1 h1 => x_fieldAddr rfl Try.runUnderlying39 rfl Try.sizeOf3 (by decide))) ?_
          refine e_next [6] (by kernel_rfl) (by kernel_rfl) ⟨⟨_, _, rfl, rfl, ?_⟩, trivial⟩
          refine s_storevi (a' := ⟨a.src, a.dst, a.lo, hi, a.loBy, a.hiBy⟩) (f := 3) S82 6 rfl rfl hat45 rfl rfl Try.sizeOf3 hcur (by decide) rfl ?_
          intro w83 S84 hk85
          refine ⟨hk85, ?_⟩
          refine e_done (by kernel_rfl) ?_
          refine l_x rfl (x_nilCheck rfl) ?_
          refine l_x rfl (x_fieldAddr rfl Try.runUnderlying39 rfl Try.sizeOf3 (by decide)) ?_
          refine l_storevi (a' := ⟨a.src, a.dst, a.lo, hi, a.loBy, r⟩) (f := 5) S84 6 rfl rfl hat45 rfl rfl Try.sizeOf3 hcur3 (by decide) rfl ?_
          intro w86 S87 hk88
          refine l_nil ?_
          refine r_seq ?_
          refine r_region ?_
          refine l_x rfl (x_load rfl (ld_blks (S87.blk 7 rfl) Try.isAgg24 Try.sizeOf24 rfl rfl)) ?_
          refine l_stores (vs := [_, _]) S87 5 rfl rfl rfl rfl (ones_cons rfl (ones_cons (Rd.one (vec_rd (S87.at 6 rfl))) ones_nil)) Try.sizeOf24 (by first | exact Nat.le_refl _ | simp) (splice_all rfl) ?_
          intro w89 S90 hk91
          refine l_x rfl (x_as rfl) ?_
          refine l_nil ?_
          refine r_ret (rs := [.cell 10 24, .tmp 11]) [_, _] Try.func20 rfl ⟨⟨_, rfl, (ld_blks (S90.blk 5 rfl) Try.isAgg24 Try.sizeOf24 rfl rfl)⟩, rfl, trivial⟩ ?_
          exact ⟨v2634, by rw [if_pos h0, h0]; rfl, by rw [if_pos h0]; have hS := S90; rw [nar01 ha0 (by omega) (by omega)] at hS; exact hS.new 6 rfl, S90.le⟩
        · skip
          refine r_skip ?_
          refine r_seq ?_
          refine r_region ?_
          refine l_x rfl (x_load rfl (ld_blks (S79.blk 7 rfl) Try.isAgg24 Try.sizeOf24 rfl rfl)) ?_
          refine l_stores (vs := [_, _]) S79 5 rfl rfl rfl rfl (ones_cons rfl (ones_cons (Rd.one (vec_rd (S79.at 6 rfl))) ones_nil)) Try.sizeOf24 (by first | exact Nat.le_refl _ | simp) (splice_all rfl) ?_
          intro w92 S93 hk94
          refine l_x rfl (x_as rfl) ?_
          refine l_nil ?_
          refine r_ret (rs := [.cell 10 24, .tmp 11]) [_, _] Try.func20 rfl ⟨⟨_, rfl, (ld_blks (S93.blk 5 rfl) Try.isAgg24 Try.sizeOf24 rfl rfl)⟩, rfl, trivial⟩ ?_
          exact ⟨v2634, by rw [if_pos h0, h0]; rfl, by rw [if_pos h0, ← nar00 ha0 (by omega) (by omega)]; exact S93.new 6 rfl, S93.le⟩
    · skip
      refine s_alloc S33 rfl Try.zeroValue24 rfl ?_
      intro b98 w95 S96 hl97
      refine ⟨.of_le hl97, ?_⟩
      refine e_next [4] (by kernel_rfl) (by kernel_rfl) ⟨⟨_, _, rfl, rfl, ?_⟩, trivial⟩
      refine s_callf [] [] [_] rfl rfl Try.call65 rfl ((c_copiedA _ _ (by omega) _ (hA.le S96.le)).mono ?_)
      rintro v2699 w99 ⟨hN2699, hl2699⟩
      have S100 := S96.add hl2699 hN2699
      refine ⟨.of_le hl2699, ?_⟩
      refine e_exact 5 _ (by kernel_rfl) rfl rfl (by kernel_rfl) rfl (ex_x rfl (fun w1 h1 => x_buildS (out := [_, _]) (ss := [1, 1]) Try.zeroValue24 rfl Try.runUnderlying24 ⟨Try.sizeOf3, Try.sizeOf22, trivial⟩ (fill_cons rfl rfl rfl (Nat.le_of_ble_eq_true rfl) (fill_cons rfl (Rd.cells (vec_rd (S100.at 7 rfl))) rfl (Nat.le_of_ble_eq_true rfl) fill_nil)))) ?_
      refine e_done (by kernel_rfl) ?_
      refine l_stores (vs := [_, _]) S100 6 rfl rfl rfl rfl (ones_cons rfl (ones_cons (Rd.one (vec_rd (S100.at 7 rfl))) ones_nil)) Try.sizeOf24 (by first | exact Nat.le_refl _ | simp) (splice_all rfl) ?_
      intro w101 S102 hk103
      refine l_nil ?_
      refine r_seq ?_
      refine r_region ?_
      refine l_x rfl (x_fieldAddr rfl Try.runUnderlying24 rfl Try.sizeOf22 (by decide)) ?_
      refine l_x rfl (x_load rfl (ld_blk (S102.blk 6 rfl) Try.isAgg22 rfl)) ?_
      refine l_x rfl (x_load rfl (ld_blk (S102.blk 1 rfl) Try.isAgg3 rfl)) ?_
      refine l_index EA rfl (vec_rd (S102.at 7 rfl)) rfl rfl Try.runUnderlying22 Try.sizeOf39 (by omega) hcur ?_
      intro b104 o105 hat106 row107
      refine l_x rfl (x_as rfl) ?_
      refine l_nil ?_
      refine r_seq ?_
      refine r_seq ?_
      refine r_drawR 6 Try.mixed (by kernel_rfl) ?_
      refine w_x rfl (fun w1 h1 => x_load rfl (ld_blk ((S102.step h1).blk 2 rfl) Try.isAgg3 rfl)) ?_
      refine w_x rfl (fun w1 h1 => x_mv rfl) ?_
      refine w_x rfl (fun w1 h1 => x_nilCheck rfl) ?_
      refine w_x rfl (fun w1 h1 => x_fieldAddr rfl Try.runUnderlying39 rfl Try.sizeOf3 (by decide)) ?_
      refine w_x rfl (fun w1 h1 => x_load rfl (ld_cell Try.isAgg3 ((rd_row (vec_rd ((S102.step h1).at 7 rfl)) hat106 hcur) 2 _ rfl))) ?_
      refine w_x rfl (fun w1 h1 => x_gtr rfl rfl) ?_
      refine w_nil ?_
      intro w108 hl109
      have S110 := S102.step hl109
      refine l_nil ?_
      refine r_ifd rfl (fun hc37 => ?_) (fun hc37 => ?_)
      · skip
        have hcur1 : (arcs.set i.toNat (⟨a.src, a.dst, lo, a.hi, a.loBy, a.hiBy⟩ : Arc))[i.toNat]? = some ⟨a.src, a.dst, lo, a.hi, a.loBy, a.hiBy⟩ := set_get hcur
        have hcur2 : ((arcs.set i.toNat (⟨a.src, a.dst, lo, a.hi, a.loBy, a.hiBy⟩ : Arc)).set i.toNat (⟨a.src, a.dst, lo, a.hi, r, a.hiBy⟩ : Arc))[i.toNat]? = some ⟨a.src, a.dst, lo, a.hi, r, a.hiBy⟩ := set_get hcur1
        refine r_drawE 7 (Rsc.fp (vec EA v2699 arcs)) Try.mixed (by kernel_rfl) ?_
        intro w111 hl112
        have S113 := S110.step hl112
        refine e_exact 0 _ (by kernel_rfl) rfl rfl (by kernel_rfl) rfl (ex_x rfl (fun w1 h1 => x_mv rfl)) ?_
        refine e_exact 1 _ (by kernel_rfl) rfl rfl (by kernel_rfl) rfl (ex_x rfl (fun w1 h1 => x_mv rfl)) ?_
        refine e_exact 2 _ (by kernel_rfl) rfl rfl (by kernel_rfl) rfl (ex_x rfl (fun w1 h1 => x_load rfl (ld_blk ((S113.under 7 rfl h1).blk 2 rfl) Try.isAgg3 rfl))) ?_
        refine e_exact 3 _ (by kernel_rfl) rfl rfl (by kernel_rfl) rfl (ex_x rfl (fun w1 h1 => x_load rfl (ld_blk ((S113.under 7 rfl h1).blk 4 rfl) Try.isAgg3 rfl))) ?_
        refine e_exact 4 _ (by kernel_rfl) rfl rfl (by kernel_rfl) rfl (ex_x rfl (fun w1 h1 => x_nilCheck rfl)) ?_
        refine e_exact 5 _ (by kernel_rfl) rfl rfl (by kernel_rfl) rfl (ex_x rfl (fun w1 h1 => x_fieldAddr rfl Try.runUnderlying39 rfl Try.sizeOf3 (by decide))) ?_
        refine e_next [6] (by kernel_rfl) (by kernel_rfl) ⟨⟨_, _, rfl, rfl, ?_⟩, trivial⟩
        refine s_storevi (a' := ⟨a.src, a.dst, lo, a.hi, a.loBy, a.hiBy⟩) (f := 2) S113 7 rfl rfl hat106 rfl rfl Try.sizeOf3 hcur (by decide) rfl ?_
        intro w114 S115 hk116
        refine ⟨hk116, ?_⟩
        refine e_done (by kernel_rfl) ?_
        refine l_x rfl (x_nilCheck rfl) ?_
        refine l_x rfl (x_fieldAddr rfl Try.runUnderlying39 rfl Try.sizeOf3 (by decide)) ?_
        refine l_storevi (a' := ⟨a.src, a.dst, lo, a.hi, r, a.hiBy⟩) (f := 4) S115 7 rfl rfl hat106 rfl rfl Try.sizeOf3 hcur1 (by decide) rfl ?_
        intro w117 S118 hk119
        refine l_nil ?_
        refine r_seq ?_
        refine r_seq ?_
        have hcur := hcur2
        refine r_drawR 6 Try.mixed (by kernel_rfl) ?_
        refine w_x rfl (fun w1 h1 => x_load rfl (ld_blk ((S118.step h1).blk 3 rfl) Try.isAgg3 rfl)) ?_
        refine w_x rfl (fun w1 h1 => x_mv rfl) ?_
        refine w_x rfl (fun w1 h1 => x_nilCheck rfl) ?_
        refine w_x rfl (fun w1 h1 => x_fieldAddr rfl Try.runUnderlying39 rfl Try.sizeOf3 (by decide)) ?_
        refine w_x rfl (fun w1 h1 => x_load rfl (ld_cell Try.isAgg3 ((rd_row (vec_rd ((S118.step h1).at 7 rfl)) hat106 hcur) 3 _ rfl))) ?_
        refine w_x rfl (fun w1 h1 => x_lss rfl rfl) ?_
        refine w_nil ?_
        intro w120 hl121
        have S122 := S118.step hl121
        refine l_nil ?_
        refine r_ifd rfl (fun hc51 => ?_) (fun hc51 => ?_)
        · skip
          have hcur3 : (((arcs.set i.toNat (⟨a.src, a.dst, lo, a.hi, a.loBy, a.hiBy⟩ : Arc)).set i.toNat (⟨a.src, a.dst, lo, a.hi, r, a.hiBy⟩ : Arc)).set i.toNat (⟨a.src, a.dst, lo, hi, r, a.hiBy⟩ : Arc))[i.toNat]? = some ⟨a.src, a.dst, lo, hi, r, a.hiBy⟩ := set_get hcur
          refine r_drawE 7 (Rsc.fp (vec EA v2699 ((arcs.set i.toNat (⟨a.src, a.dst, lo, a.hi, a.loBy, a.hiBy⟩ : Arc)).set i.toNat (⟨a.src, a.dst, lo, a.hi, r, a.hiBy⟩ : Arc)))) Try.mixed (by kernel_rfl) ?_
          intro w123 hl124
          have S125 := S122.step hl124
          refine e_exact 0 _ (by kernel_rfl) rfl rfl (by kernel_rfl) rfl (ex_x rfl (fun w1 h1 => x_mv rfl)) ?_
          refine e_exact 1 _ (by kernel_rfl) rfl rfl (by kernel_rfl) rfl (ex_x rfl (fun w1 h1 => x_mv rfl)) ?_
          refine e_exact 2 _ (by kernel_rfl) rfl rfl (by kernel_rfl) rfl (ex_x rfl (fun w1 h1 => x_load rfl (ld_blk ((S125.under 7 rfl h1).blk 3 rfl) Try.isAgg3 rfl))) ?_
          refine e_exact 3 _ (by kernel_rfl) rfl rfl (by kernel_rfl) rfl (ex_x rfl (fun w1 h1 => x_load rfl (ld_blk ((S125.under 7 rfl h1).blk 4 rfl) Try.isAgg3 rfl))) ?_
          refine e_exact 4 _ (by kernel_rfl) rfl rfl (by kernel_rfl) rfl (ex_x rfl (fun w1 h1 => x_nilCheck rfl)) ?_
          refine e_exact 5 _ (by kernel_rfl) rfl rfl (by kernel_rfl) rfl (ex_x rfl (fun w1 h1 => x_fieldAddr rfl Try.runUnderlying39 rfl Try.sizeOf3 (by decide))) ?_
          refine e_next [6] (by kernel_rfl) (by kernel_rfl) ⟨⟨_, _, rfl, rfl, ?_⟩, trivial⟩
          refine s_storevi (a' := ⟨a.src, a.dst, lo, hi, r, a.hiBy⟩) (f := 3) S125 7 rfl rfl hat106 rfl rfl Try.sizeOf3 hcur (by decide) rfl ?_
          intro w126 S127 hk128
          refine ⟨hk128, ?_⟩
          refine e_done (by kernel_rfl) ?_
          refine l_x rfl (x_nilCheck rfl) ?_
          refine l_x rfl (x_fieldAddr rfl Try.runUnderlying39 rfl Try.sizeOf3 (by decide)) ?_
          refine l_storevi (a' := ⟨a.src, a.dst, lo, hi, r, r⟩) (f := 5) S127 7 rfl rfl hat106 rfl rfl Try.sizeOf3 hcur3 (by decide) rfl ?_
          intro w129 S130 hk131
          refine l_nil ?_
          refine r_seq ?_
          refine r_region ?_
          refine l_x rfl (x_load rfl (ld_blks (S130.blk 6 rfl) Try.isAgg24 Try.sizeOf24 rfl rfl)) ?_
          refine l_stores (vs := [_, _]) S130 5 rfl rfl rfl rfl (ones_cons rfl (ones_cons (Rd.one (vec_rd (S130.at 7 rfl))) ones_nil)) Try.sizeOf24 (by first | exact Nat.le_refl _ | simp) (splice_all rfl) ?_
          intro w132 S133 hk134
          refine l_x rfl (x_as rfl) ?_
          refine l_nil ?_
          refine r_ret (rs := [.cell 10 24, .tmp 11]) [_, _] Try.func20 rfl ⟨⟨_, rfl, (ld_blks (S133.blk 5 rfl) Try.isAgg24 Try.sizeOf24 rfl rfl)⟩, rfl, trivial⟩ ?_
          exact ⟨v2699, by rw [if_pos h0, h0]; rfl, by rw [if_pos h0]; have hS := S133; rw [nar11 ha0 (by omega) (by omega)] at hS; exact hS.new 7 rfl, S133.le⟩
        · skip
          refine r_skip ?_
          refine r_seq ?_
          refine r_region ?_
          refine l_x rfl (x_load rfl (ld_blks (S122.blk 6 rfl) Try.isAgg24 Try.sizeOf24 rfl rfl)) ?_
          refine l_stores (vs := [_, _]) S122 5 rfl rfl rfl rfl (ones_cons rfl (ones_cons (Rd.one (vec_rd (S122.at 7 rfl))) ones_nil)) Try.sizeOf24 (by first | exact Nat.le_refl _ | simp) (splice_all rfl) ?_
          intro w135 S136 hk137
          refine l_x rfl (x_as rfl) ?_
          refine l_nil ?_
          refine r_ret (rs := [.cell 10 24, .tmp 11]) [_, _] Try.func20 rfl ⟨⟨_, rfl, (ld_blks (S136.blk 5 rfl) Try.isAgg24 Try.sizeOf24 rfl rfl)⟩, rfl, trivial⟩ ?_
          exact ⟨v2699, by rw [if_pos h0, h0]; rfl, by rw [if_pos h0]; have hS := S136; rw [nar10 ha0 (by omega) (by omega)] at hS; exact hS.new 7 rfl, S136.le⟩
      · skip
        refine r_skip ?_
        refine r_seq ?_
        refine r_seq ?_
        
        refine r_drawR 6 Try.mixed (by kernel_rfl) ?_
        refine w_x rfl (fun w1 h1 => x_load rfl (ld_blk ((S110.step h1).blk 3 rfl) Try.isAgg3 rfl)) ?_
        refine w_x rfl (fun w1 h1 => x_mv rfl) ?_
        refine w_x rfl (fun w1 h1 => x_nilCheck rfl) ?_
        refine w_x rfl (fun w1 h1 => x_fieldAddr rfl Try.runUnderlying39 rfl Try.sizeOf3 (by decide)) ?_
        refine w_x rfl (fun w1 h1 => x_load rfl (ld_cell Try.isAgg3 ((rd_row (vec_rd ((S110.step h1).at 7 rfl)) hat106 hcur) 3 _ rfl))) ?_
        refine w_x rfl (fun w1 h1 => x_lss rfl rfl) ?_
        refine w_nil ?_
        intro w138 hl139
        have S140 := S110.step hl139
        refine l_nil ?_
        refine r_ifd rfl (fun hc51 => ?_) (fun hc51 => ?_)
        · skip
          have hcur3 : (arcs.set i.toNat (⟨a.src, a.dst, a.lo, hi, a.loBy, a.hiBy⟩ : Arc))[i.toNat]? = some ⟨a.src, a.dst, a.lo, hi, a.loBy, a.hiBy⟩ := set_get hcur
          refine r_drawE 7 (Rsc.fp (vec EA v2699 arcs)) Try.mixed (by kernel_rfl) ?_
          intro w141 hl142
          have S143 := S140.step hl142
          refine e_exact 0 _ (by kernel_rfl) rfl rfl (by kernel_rfl) rfl (ex_x rfl (fun w1 h1 => x_mv rfl)) ?_
          refine e_exact 1 _ (by kernel_rfl) rfl rfl (by kernel_rfl) rfl (ex_x rfl (fun w1 h1 => x_mv rfl)) ?_
          refine e_exact 2 _ (by kernel_rfl) rfl rfl (by kernel_rfl) rfl (ex_x rfl (fun w1 h1 => x_load rfl (ld_blk ((S143.under 7 rfl h1).blk 3 rfl) Try.isAgg3 rfl))) ?_
          refine e_exact 3 _ (by kernel_rfl) rfl rfl (by kernel_rfl) rfl (ex_x rfl (fun w1 h1 => x_load rfl (ld_blk ((S143.under 7 rfl h1).blk 4 rfl) Try.isAgg3 rfl))) ?_
          refine e_exact 4 _ (by kernel_rfl) rfl rfl (by kernel_rfl) rfl (ex_x rfl (fun w1 h1 => x_nilCheck rfl)) ?_
          refine e_exact 5 _ (by kernel_rfl) rfl rfl (by kernel_rfl) rfl (ex_x rfl (fun w1 h1 => x_fieldAddr rfl Try.runUnderlying39 rfl Try.sizeOf3 (by decide))) ?_
          refine e_next [6] (by kernel_rfl) (by kernel_rfl) ⟨⟨_, _, rfl, rfl, ?_⟩, trivial⟩
          refine s_storevi (a' := ⟨a.src, a.dst, a.lo, hi, a.loBy, a.hiBy⟩) (f := 3) S143 7 rfl rfl hat106 rfl rfl Try.sizeOf3 hcur (by decide) rfl ?_
          intro w144 S145 hk146
          refine ⟨hk146, ?_⟩
          refine e_done (by kernel_rfl) ?_
          refine l_x rfl (x_nilCheck rfl) ?_
          refine l_x rfl (x_fieldAddr rfl Try.runUnderlying39 rfl Try.sizeOf3 (by decide)) ?_
          refine l_storevi (a' := ⟨a.src, a.dst, a.lo, hi, a.loBy, r⟩) (f := 5) S145 7 rfl rfl hat106 rfl rfl Try.sizeOf3 hcur3 (by decide) rfl ?_
          intro w147 S148 hk149
          refine l_nil ?_
          refine r_seq ?_
          refine r_region ?_
          refine l_x rfl (x_load rfl (ld_blks (S148.blk 6 rfl) Try.isAgg24 Try.sizeOf24 rfl rfl)) ?_
          refine l_stores (vs := [_, _]) S148 5 rfl rfl rfl rfl (ones_cons rfl (ones_cons (Rd.one (vec_rd (S148.at 7 rfl))) ones_nil)) Try.sizeOf24 (by first | exact Nat.le_refl _ | simp) (splice_all rfl) ?_
          intro w150 S151 hk152
          refine l_x rfl (x_as rfl) ?_
          refine l_nil ?_
          refine r_ret (rs := [.cell 10 24, .tmp 11]) [_, _] Try.func20 rfl ⟨⟨_, rfl, (ld_blks (S151.blk 5 rfl) Try.isAgg24 Try.sizeOf24 rfl rfl)⟩, rfl, trivial⟩ ?_
          exact ⟨v2699, by rw [if_pos h0, h0]; rfl, by rw [if_pos h0]; have hS := S151; rw [nar01 ha0 (by omega) (by omega)] at hS; exact hS.new 7 rfl, S151.le⟩
        · skip
          refine r_skip ?_
          refine r_seq ?_
          refine r_region ?_
          refine l_x rfl (x_load rfl (ld_blks (S140.blk 6 rfl) Try.isAgg24 Try.sizeOf24 rfl rfl)) ?_
          refine l_stores (vs := [_, _]) S140 5 rfl rfl rfl rfl (ones_cons rfl (ones_cons (Rd.one (vec_rd (S140.at 7 rfl))) ones_nil)) Try.sizeOf24 (by first | exact Nat.le_refl _ | simp) (splice_all rfl) ?_
          intro w153 S154 hk155
          refine l_x rfl (x_as rfl) ?_
          refine l_nil ?_
          refine r_ret (rs := [.cell 10 24, .tmp 11]) [_, _] Try.func20 rfl ⟨⟨_, rfl, (ld_blks (S154.blk 5 rfl) Try.isAgg24 Try.sizeOf24 rfl rfl)⟩, rfl, trivial⟩ ?_
          exact ⟨v2699, by rw [if_pos h0, h0]; rfl, by rw [if_pos h0, ← nar00 ha0 (by omega) (by omega)]; exact S154.new 7 rfl, S154.le⟩

end Go.Proofs

/-
  Contracts of functions of the program: each by symbolic execution of its text.
-/
namespace Go.Proofs
open Go Go.Vk Go.Vk.Flow

theorem take_same {a b : List Int} {i : Nat} {x y : Int} (hx : a[i]? = some x) (hy : b[i]? = some y) (e : x = y) (h : a.take i = b.take i) : a.take (i + 1) = b.take (i + 1) := by
  rw [List.take_add_one, List.take_add_one, hx, hy, h, e]

/-- couchant/couchantref06.SameInts. -/
theorem c_SameInts (va : Value) (a : List Int) (vb : Value) (b : List Int) (hm : a.length ≤ 9223372036854775807) (w : World) (Ha : Rd EI w va a) (Hb : Rd EI w vb b) :
    Cl Try.prog 29 #[va, vb] w fun v w' => v = .bool (decide (a = b)) ∧ Le w w' := by
  refine fn_of_run (args := [_, _]) 26 Try.func29 rfl rfl rfl fun cs => ?_
  have S := Own.start (X := nob) w
  refine r_seq ?_
  refine r_region ?_
  refine l_x rfl (x_as rfl) ?_
  refine l_nil ?_
  refine r_seq ?_
  refine r_seq ?_
  refine r_region ?_
  refine l_x rfl (x_mv rfl) ?_
  refine l_x rfl (x_len (Ha.le S.le) rfl Try.runUnderlying25) ?_
  refine l_x rfl (x_mv rfl) ?_
  refine l_x rfl (x_len (Hb.le S.le) rfl Try.runUnderlying25) ?_
  refine l_x rfl (x_neq rfl rfl) ?_
  refine l_nil ?_
  refine r_ifd rfl (fun hc10 => ?_) (fun hc10 => ?_)
  · skip
    refine r_seq ?_
    refine r_region ?_
    refine l_x rfl (x_as rfl) ?_
    refine l_nil ?_
    refine r_ret (rs := [.tmp 4]) [_] Try.func29 rfl ⟨rfl, trivial⟩ ?_
    exact ⟨congrArg Value.bool (decide_eq_false (fun h => by subst h; omega)).symm, S.le⟩
  · skip
    have hab : a.length = b.length := by omega
    refine r_skip ?_
    refine r_seq ?_
    refine r_seq ?_
    refine r_region ?_
    refine l_x rfl (x_as rfl) ?_
    refine l_nil ?_
    refine r_block ?_
    refine r_loop (G := Nat) (fun i => a.length - i) (fun i => [(0, va), (1, vb), (5, .int .i64 i)]) (fun i w' => (i ≤ a.length) ∧ (a.take i = b.take i) ∧ Own nob w w' []) 0 ⟨rfl, rfl, rfl, trivial⟩ ⟨Nat.zero_le _, by simp, S⟩ ?_
    rintro i ρ w1 ⟨hi, hs, S1⟩ IH
    refine r_seq ?_
    refine r_seq ?_
    refine r_region ?_
    refine l_x rfl (x_mv rfl) ?_
    refine l_x rfl (x_mv rfl) ?_
    refine l_x rfl (x_len (Ha.le S1.le) rfl Try.runUnderlying25) ?_
    refine l_x rfl (x_lss rfl rfl) ?_
    refine l_nil ?_
    refine r_ifd rfl (fun hc14 => ?_) (fun hc14 => ?_)
    · skip
      obtain ⟨x, hx⟩ : ∃ x, a[i]? = some x := ⟨_, List.getElem?_eq_getElem (by omega)⟩
      obtain ⟨y, hy⟩ : ∃ y, b[i]? = some y := ⟨_, List.getElem?_eq_getElem (by omega)⟩
      refine r_skip ?_
      refine r_seq ?_
      refine r_block ?_
      refine r_seq ?_
      refine r_drawR 9 Try.mixed (by kernel_rfl) ?_
      refine w_x rfl (fun w1 h1 => x_mv rfl) ?_
      refine w_x rfl (fun w1 h1 => x_mv rfl) ?_
      refine w_index EI rfl (Ha.le S1.le) rfl rfl Try.runUnderlying25 Try.sizeOf3 (by omega) (by first | assumption | exact List.getElem?_eq_getElem (by omega)) ?_
      intro b1 o2 hat3 row4
      refine w_x rfl (fun w1 h1 => x_load rfl (ld_cell Try.isAgg3 ((row4.le h1) 0 _ rfl))) ?_
      refine w_x rfl (fun w1 h1 => x_mv rfl) ?_
      refine w_x rfl (fun w1 h1 => x_mv rfl) ?_
      refine w_index EI rfl (Hb.le S1.le) rfl rfl Try.runUnderlying25 Try.sizeOf3 (by omega) (by first | assumption | exact List.getElem?_eq_getElem (by omega)) ?_
      intro b5 o6 hat7 row8
      refine w_x rfl (fun w1 h1 => x_load rfl (ld_cell Try.isAgg3 ((row8.le h1) 0 _ rfl))) ?_
      refine w_x rfl (fun w1 h1 => x_neq rfl rfl) ?_
      refine w_nil ?_
      intro w9 hl10
      have S11 := S1.step hl10
      refine l_nil ?_
      refine r_ifd rfl (fun hc25 => ?_) (fun hc25 => ?_)
      · skip
        refine r_seq ?_
        refine r_region ?_
        refine l_x rfl (x_as rfl) ?_
        refine l_nil ?_
        refine r_ret (rs := [.tmp 4]) [_] Try.func29 rfl ⟨rfl, trivial⟩ ?_
        exact ⟨congrArg Value.bool (decide_eq_false (fun h => by subst h; rw [hx] at hy; exact hc25 (Option.some.inj hy))).symm, S11.le⟩
      · skip
        have hc25 : x = y := Decidable.not_not.1 hc25
        refine r_skip ?_
        refine r_inBlock ?_
        refine r_region ?_
        refine l_x rfl (x_mv rfl) ?_
        refine l_x rfl (x_add rfl rfl (by omega)) ?_
        refine l_x rfl (x_as rfl) ?_
        refine l_nil ?_
        exact IH (i + 1) _ _ (by omega) ⟨rfl, rfl, rfl, trivial⟩ ⟨by omega, take_same hx hy hc25 hs, S11⟩
    · skip
      have hie : i = a.length := by omega
      subst hie
      refine r_exit rfl ?_
      refine r_seq ?_
      refine r_region ?_
      refine l_x rfl (x_as rfl) ?_
      refine l_nil ?_
      refine r_ret (rs := [.tmp 4]) [_] Try.func29 rfl ⟨rfl, trivial⟩ ?_
      exact ⟨congrArg Value.bool (decide_eq_true (by rw [List.take_length] at hs; rw [hs, hab, List.take_length])).symm, S1.le⟩

/-- couchant/couchantlaw06.network. -/
theorem c_network  (w : World) :
    Cl Try.prog 61 #[] w fun v w' => ∃ vn, v = .agg #[.int .i64 3, vn] ∧ New w w' (vec EA vn netA) ∧ Le w w' := by
  refine fn_of_run (args := []) 7 Try.func61 rfl rfl rfl fun cs => ?_
  have S := Own.start (X := nob) w
  refine r_seq ?_
  refine r_region ?_
  refine l_alloc S rfl Try.zeroValue24 rfl ?_
  intro b4 w1 S2 hl3
  refine l_nil ?_
  refine r_seq ?_
  refine r_region ?_
  refine l_x rfl (x_buildS (out := [_, _, _, _, _, _]) (ss := [1, 1, 1, 1, 1, 1]) Try.zeroValue39 rfl Try.runUnderlying39 ⟨Try.sizeOf3, Try.sizeOf3, Try.sizeOf3, Try.sizeOf3, Try.sizeOf3, Try.sizeOf3, trivial⟩ (fill_cons rfl rfl rfl (Nat.le_of_ble_eq_true rfl) (fill_cons rfl rfl rfl (Nat.le_of_ble_eq_true rfl) (fill_cons rfl rfl rfl (Nat.le_of_ble_eq_true rfl) (fill_cons rfl rfl rfl (Nat.le_of_ble_eq_true rfl) (fill_cons rfl rfl rfl (Nat.le_of_ble_eq_true rfl) (fill_cons rfl rfl rfl (Nat.le_of_ble_eq_true rfl) fill_nil))))))) ?_
  refine l_x rfl (x_buildS (out := [_, _, _, _, _, _]) (ss := [1, 1, 1, 1, 1, 1]) Try.zeroValue39 rfl Try.runUnderlying39 ⟨Try.sizeOf3, Try.sizeOf3, Try.sizeOf3, Try.sizeOf3, Try.sizeOf3, Try.sizeOf3, trivial⟩ (fill_cons rfl rfl rfl (Nat.le_of_ble_eq_true rfl) (fill_cons rfl rfl rfl (Nat.le_of_ble_eq_true rfl) (fill_cons rfl rfl rfl (Nat.le_of_ble_eq_true rfl) (fill_cons rfl rfl rfl (Nat.le_of_ble_eq_true rfl) fill_nil))))) ?_
  refine l_x rfl (x_buildS (out := [_, _, _, _, _, _]) (ss := [1, 1, 1, 1, 1, 1]) Try.zeroValue39 rfl Try.runUnderlying39 ⟨Try.sizeOf3, Try.sizeOf3, Try.sizeOf3, Try.sizeOf3, Try.sizeOf3, Try.sizeOf3, trivial⟩ (fill_cons rfl rfl rfl (Nat.le_of_ble_eq_true rfl) (fill_cons rfl rfl rfl (Nat.le_of_ble_eq_true rfl) (fill_cons rfl rfl rfl (Nat.le_of_ble_eq_true rfl) fill_nil)))) ?_
  refine l_x rfl (x_buildS (out := [_, _, _, _, _, _]) (ss := [1, 1, 1, 1, 1, 1]) Try.zeroValue39 rfl Try.runUnderlying39 ⟨Try.sizeOf3, Try.sizeOf3, Try.sizeOf3, Try.sizeOf3, Try.sizeOf3, Try.sizeOf3, trivial⟩ (fill_cons rfl rfl rfl (Nat.le_of_ble_eq_true rfl) (fill_cons rfl rfl rfl (Nat.le_of_ble_eq_true rfl) (fill_cons rfl rfl rfl (Nat.le_of_ble_eq_true rfl) (fill_cons rfl rfl rfl (Nat.le_of_ble_eq_true rfl) fill_nil))))) ?_
  refine l_buildSlice EA netA S2 rfl Try.runUnderlying22 Try.sizeOf39 Try.zeroValue39 rfl ⟨rfl, rfl, rfl, rfl, rfl, rfl, rfl, rfl, trivial⟩ (Nat.le_of_ble_eq_true rfl) ?_
  intro v8 w5 S6 hl7
  refine l_x rfl (x_buildS (out := [_, _]) (ss := [1, 1]) Try.zeroValue24 rfl Try.runUnderlying24 ⟨Try.sizeOf3, Try.sizeOf22, trivial⟩ (fill_cons rfl rfl rfl (Nat.le_of_ble_eq_true rfl) (fill_cons rfl (Rd.cells (vec_rd (S6.at 1 rfl))) rfl (Nat.le_of_ble_eq_true rfl) fill_nil))) ?_
  refine l_stores (vs := [_, _]) S6 0 rfl rfl rfl rfl (ones_cons rfl (ones_cons (Rd.one (vec_rd (S6.at 1 rfl))) ones_nil)) Try.sizeOf24 (by first | exact Nat.le_refl _ | simp) (splice_all rfl) ?_
  intro w9 S10 hk11
  refine l_nil ?_
  refine r_ret (rs := [.cell 0 24]) [_] Try.func61 rfl ⟨⟨_, rfl, (ld_blks (S10.blk 0 rfl) Try.isAgg24 Try.sizeOf24 rfl rfl)⟩, trivial⟩ ?_
  exact ⟨_, rfl, S10.new 1 rfl, S10.le⟩

/-- Narrow, where it may. -/
theorem c_NarrowOk (N : Int) (va : Value) (arcs : List Arc) (i lo hi r : Int) (h0 : narE N arcs i lo hi r = 0) (w : World) (hA : Rd EA w va arcs) :
    Cl Try.prog 20 #[.agg #[.int .i64 N, va], .int .i64 i, .int .i64 lo, .int .i64 hi, .int .i64 r] w fun v w' => ∃ vh, v = .tuple #[.agg #[.int .i64 N, vh], .int .i64 0] ∧ New w w' (vec EA vh (nar arcs i.toNat lo hi r)) ∧ Le w w' :=
  (c_Narrow N va arcs i lo hi r w hA).mono fun _ _ ⟨vh, h1, h2, h3⟩ => ⟨vh, by rw [h1, if_pos h0, h0], by rw [if_pos h0] at h2; exact h2, h3⟩
/-- Narrow, both ways. -/
theorem c_Narrow2 (N : Int) (va : Value) (arcs : List Arc) (i lo hi r : Int) (w : World) (hA : Rd EA w va arcs) :
    Cl Try.prog 20 #[.agg #[.int .i64 N, va], .int .i64 i, .int .i64 lo, .int .i64 hi, .int .i64 r] w fun v w' =>
      (∃ vh, v = .tuple #[.agg #[.int .i64 N, vh], .int .i64 0] ∧ New w w' (vec EA vh (nar arcs i.toNat lo hi r)) ∧ Le w w' ∧ narE N arcs i lo hi r = 0) ∨
      (∃ vh e, v = .tuple #[.agg #[.int .i64 0, vh], .int .i64 e] ∧ New w w' (vec EA vh []) ∧ Le w w' ∧ e = narE N arcs i lo hi r ∧ ¬ e = 0) := by
  refine (c_Narrow N va arcs i lo hi r w hA).mono fun _ _ ⟨vh, h1, h2, h3⟩ => ?_
  by_cases h0 : narE N arcs i lo hi r = 0
  · exact .inl ⟨vh, by rw [h1, if_pos h0, h0], by rw [if_pos h0] at h2; exact h2, h3, h0⟩
  · exact .inr ⟨vh, _, by rw [h1, if_neg h0], by rw [if_neg h0] at h2; exact h2, h3, rfl, h0⟩

set_option maxHeartbeats 4000000 in
/-- couchant/couchantlaw06.flowing. -/
theorem c_flowing  (w : World) :
    Cl Try.prog 19 #[] w fun v w' => v = .bool true ∧ Le w w' := by
  refine fn_of_run (args := []) 197 Try.func19 rfl rfl rfl fun cs => ?_
  have S := Own.start (X := nob) w
  refine r_seq ?_
  refine r_region ?_
  refine l_x rfl (x_as rfl) ?_
  refine l_nil ?_
  refine r_seq ?_
  refine r_region ?_
  refine l_call [] [] [] rfl rfl Try.call61 rfl (c_network _) ?_
  rintro _ w1 ⟨vn301, rfl, hN301, hl301⟩
  have S2 := S.add hl301 hN301
  refine l_alloc S2 rfl Try.zeroValue24 rfl ?_
  intro b6 w3 S4 hl5
  refine l_stores (vs := [_, _]) S4 1 rfl rfl rfl rfl (ones_cons rfl (ones_cons (Rd.one (vec_rd (S4.at 0 rfl))) ones_nil)) Try.sizeOf24 (by first | exact Nat.le_refl _ | simp) (splice_all rfl) ?_
  intro w7 S8 hk9
  refine l_nil ?_
  refine r_seq ?_
  refine r_region ?_
  refine l_x rfl (x_load rfl (ld_blks (S8.blk 1 rfl) Try.isAgg24 Try.sizeOf24 rfl rfl)) ?_
  refine l_buildSlice EI [3, 2, 2, 1] S8 rfl Try.runUnderlying25 Try.sizeOf3 Try.zeroValue3 rfl ⟨rfl, rfl, rfl, rfl, rfl, rfl, rfl, rfl, trivial⟩ (Nat.le_of_ble_eq_true rfl) ?_
  intro v13 w10 S11 hl12
  refine l_call [] [] [_, _] rfl rfl Try.call21 rfl (c_Kept _ _ _ _ _ (by first | omega | (rw [unit_length]; omega) | (rw [List.length_map]; omega) | decide) _ (vec_rd (S11.at 0 rfl)) (vec_rd (S11.at 2 rfl))) ?_
  rintro _ w14 ⟨rfl, hl16⟩
  have S15 := S11.step hl16
  refine l_x rfl (x_mv rfl) ?_
  refine l_x rfl (x_extract rfl rfl) ?_
  refine l_x rfl (x_extract rfl rfl) ?_
  refine l_x rfl (x_as rfl) ?_
  refine l_x rfl (x_as rfl) ?_
  refine l_nil ?_
  refine r_seq ?_
  refine r_slot 2 (.bool true) (congrArg Value.bool netK1) ?_
  refine r_slot 3 (.int .i64 0) (congrArg (Value.int .i64) netE1) ?_
  refine r_region ?_
  refine l_x rfl (x_load rfl (ld_blks (S15.blk 1 rfl) Try.isAgg24 Try.sizeOf24 rfl rfl)) ?_
  refine l_buildSlice EI [1, 1, 1, 0] S15 rfl Try.runUnderlying25 Try.sizeOf3 Try.zeroValue3 rfl ⟨rfl, rfl, rfl, rfl, rfl, rfl, rfl, rfl, trivial⟩ (Nat.le_of_ble_eq_true rfl) ?_
  intro v20 w17 S18 hl19
  refine l_call [] [] [_, _] rfl rfl Try.call21 rfl (c_Kept _ _ _ _ _ (by first | omega | (rw [unit_length]; omega) | (rw [List.length_map]; omega) | decide) _ (vec_rd (S18.at 0 rfl)) (vec_rd (S18.at 3 rfl))) ?_
  rintro _ w21 ⟨rfl, hl23⟩
  have S22 := S18.step hl23
  refine l_x rfl (x_mv rfl) ?_
  refine l_x rfl (x_extract rfl rfl) ?_
  refine l_x rfl (x_extract rfl rfl) ?_
  refine l_x rfl (x_as rfl) ?_
  refine l_x rfl (x_as rfl) ?_
  refine l_nil ?_
  refine r_seq ?_
  refine r_slot 4 (.bool false) (congrArg Value.bool netK2) ?_
  refine r_slot 5 (.int .i64 0) (congrArg (Value.int .i64) netE2) ?_
  refine r_region ?_
  refine l_x rfl (x_load rfl (ld_blks (S22.blk 1 rfl) Try.isAgg24 Try.sizeOf24 rfl rfl)) ?_
  refine l_call [] [] [_, _] rfl rfl Try.call23 rfl (c_Range _ _ _ _ _ (vec_rd (S22.at 0 rfl))) ?_
  rintro _ w24 ⟨lo4524, hi4524, e4524, rfl, hl4524, hR4524⟩
  have S25 := S22.step hl4524
  obtain ⟨rfl, rfl, rfl⟩ := netR hR4524
  refine l_x rfl (x_mv rfl) ?_
  refine l_x rfl (x_extract rfl rfl) ?_
  refine l_x rfl (x_extract rfl rfl) ?_
  refine l_x rfl (x_extract rfl rfl) ?_
  refine l_x rfl (x_as rfl) ?_
  refine l_x rfl (x_as rfl) ?_
  refine l_x rfl (x_as rfl) ?_
  refine l_nil ?_
  refine r_seq ?_
  have S26 := S25.pick (L' := [_, _]) [0, 1] (by decide) rfl
  refine r_forget [(1, .pointer (some ⟨b6, 0, none⟩)), (2, .bool true), (3, .int .i64 0), (4, .bool false), (5, .int .i64 0), (6, .int .i64 2), (7, .int .i64 5), (8, .int .i64 0)] ⟨rfl, rfl, rfl, rfl, rfl, rfl, rfl, rfl, trivial⟩ ?_
  intro ρ27
  refine r_region ?_
  refine l_x rfl (x_load rfl (ld_blks (S26.blk 1 rfl) Try.isAgg24 Try.sizeOf24 rfl rfl)) ?_
  refine l_buildSlice EI [1, 0, 1, 0] S26 rfl Try.runUnderlying25 Try.sizeOf3 Try.zeroValue3 rfl ⟨rfl, rfl, rfl, rfl, rfl, rfl, rfl, rfl, trivial⟩ (Nat.le_of_ble_eq_true rfl) ?_
  intro v31 w28 S29 hl30
  refine l_call [] [] [_, _] rfl rfl Try.call22 rfl (c_Greatest _ _ _ _ _ (by first | omega | (rw [unit_length]; omega) | (rw [List.length_map]; omega) | decide) _ (vec_rd (S29.at 0 rfl)) (vec_rd (S29.at 2 rfl))) ?_
  rintro _ w32 ⟨n5232, vx5232, x5232, vp5232, p5232, e5232, rfl, hO5232, hR5232⟩
  have S33 := S29.join hO5232
  obtain ⟨rfl, rfl, hxA, hx0A, hpA⟩ := netG1 hR5232
  refine l_x rfl (x_mv rfl) ?_
  refine l_x rfl (x_extract rfl rfl) ?_
  refine l_x rfl (x_extract rfl rfl) ?_
  refine l_x rfl (x_extract rfl rfl) ?_
  refine l_x rfl (x_extract rfl rfl) ?_
  refine l_x rfl (x_as rfl) ?_
  refine l_x rfl (x_as rfl) ?_
  refine l_x rfl (x_as rfl) ?_
  refine l_x rfl (x_as rfl) ?_
  refine l_nil ?_
  refine r_seq ?_
  have S34 := S33.pick (L' := [_, _, _, _]) [0, 1, 3, 4] (by decide) rfl
  refine r_forget [(1, .pointer (some ⟨b6, 0, none⟩)), (2, .bool true), (3, .int .i64 0), (4, .bool false), (5, .int .i64 0), (6, .int .i64 2), (7, .int .i64 5), (8, .int .i64 0), (9, .int .i64 9), (10, vx5232), (11, vp5232), (12, .int .i64 0)] ⟨rfl, rfl, rfl, rfl, rfl, rfl, rfl, rfl, rfl, rfl, rfl, rfl, trivial⟩ ?_
  intro ρ35
  refine r_region ?_
  refine l_x rfl (x_load rfl (ld_blks (S34.blk 1 rfl) Try.isAgg24 Try.sizeOf24 rfl rfl)) ?_
  refine l_buildSlice EI [0, 0, 1, 0] S34 rfl Try.runUnderlying25 Try.sizeOf3 Try.zeroValue3 rfl ⟨rfl, rfl, rfl, rfl, rfl, rfl, rfl, rfl, trivial⟩ (Nat.le_of_ble_eq_true rfl) ?_
  intro v39 w36 S37 hl38
  refine l_buildSlice EI [0, 0, -1] S37 rfl Try.runUnderlying25 Try.sizeOf3 Try.zeroValue3 rfl ⟨rfl, rfl, rfl, rfl, rfl, rfl, trivial⟩ (Nat.le_of_ble_eq_true rfl) ?_
  intro v43 w40 S41 hl42
  refine l_call [] [] [_, _, _] rfl rfl Try.call34 rfl (c_Bound _ _ _ _ _ _ _ (by first | omega | (rw [unit_length]; omega) | (rw [List.length_map]; omega) | decide) (by first | omega | (rw [unit_length]; omega) | (rw [List.length_map]; omega) | decide) _ (vec_rd (S41.at 0 rfl)) (vec_rd (S41.at 4 rfl)) (vec_rd (S41.at 5 rfl))) ?_
  rintro _ w44 ⟨rfl, hl46⟩
  have S45 := S41.step hl46
  refine l_x rfl (x_mv rfl) ?_
  refine l_x rfl (x_extract rfl rfl) ?_
  refine l_x rfl (x_extract rfl rfl) ?_
  refine l_x rfl (x_as rfl) ?_
  refine l_x rfl (x_as rfl) ?_
  refine l_nil ?_
  refine r_seq ?_
  refine r_slot 13 (.int .i64 4) (congrArg (Value.int .i64) netB1) ?_
  refine r_slot 14 (.int .i64 0) (congrArg (Value.int .i64) netB2) ?_
  refine r_region ?_
  refine l_x rfl (x_load rfl (ld_blks (S45.blk 1 rfl) Try.isAgg24 Try.sizeOf24 rfl rfl)) ?_
  refine l_buildSlice EI [0, 0, 1, 0] S45 rfl Try.runUnderlying25 Try.sizeOf3 Try.zeroValue3 rfl ⟨rfl, rfl, rfl, rfl, rfl, rfl, rfl, rfl, trivial⟩ (Nat.le_of_ble_eq_true rfl) ?_
  intro v50 w47 S48 hl49
  refine l_call [] [] [_, _] rfl rfl Try.call22 rfl (c_Greatest _ _ _ _ _ (by first | omega | (rw [unit_length]; omega) | (rw [List.length_map]; omega) | decide) _ (vec_rd (S48.at 0 rfl)) (vec_rd (S48.at 6 rfl))) ?_
  rintro _ w51 ⟨n6751, vx6751, x6751, vp6751, p6751, e6751, rfl, hO6751, hR6751⟩
  have S52 := S48.join hO6751
  obtain ⟨rfl, hqB, hq0B, hq1B⟩ := netG2 hR6751
  refine l_x rfl (x_mv rfl) ?_
  refine l_x rfl (x_extract rfl rfl) ?_
  refine l_x rfl (x_extract rfl rfl) ?_
  refine l_x rfl (x_extract rfl rfl) ?_
  refine l_x rfl (x_extract rfl rfl) ?_
  refine l_x rfl (x_as rfl) ?_
  refine l_x rfl (x_as rfl) ?_
  refine l_x rfl (x_as rfl) ?_
  refine l_x rfl (x_as rfl) ?_
  refine l_nil ?_
  refine r_seq ?_
  have S53 := S52.pick (L' := [_, _, _, _, _]) [0, 1, 2, 3, 8] (by decide) rfl
  refine r_forget [(1, .pointer (some ⟨b6, 0, none⟩)), (2, .bool true), (3, .int .i64 0), (4, .bool false), (5, .int .i64 0), (6, .int .i64 2), (7, .int .i64 5), (8, .int .i64 0), (9, .int .i64 9), (10, vx5232), (11, vp5232), (12, .int .i64 0), (13, .int .i64 4), (14, .int .i64 0), (17, vp6751), (18, .int .i64 0)] ⟨rfl, rfl, rfl, rfl, rfl, rfl, rfl, rfl, rfl, rfl, rfl, rfl, rfl, rfl, rfl, rfl, trivial⟩ ?_
  intro ρ54
  refine r_region ?_
  refine l_x rfl (x_load rfl (ld_blks (S53.blk 1 rfl) Try.isAgg24 Try.sizeOf24 rfl rfl)) ?_
  refine l_buildSlice EI [0, 0, 1, 0] S53 rfl Try.runUnderlying25 Try.sizeOf3 Try.zeroValue3 rfl ⟨rfl, rfl, rfl, rfl, rfl, rfl, rfl, rfl, trivial⟩ (Nat.le_of_ble_eq_true rfl) ?_
  intro v58 w55 S56 hl57
  refine l_x rfl (x_mv rfl) ?_
  refine l_call [] [] [_, _, _] rfl rfl Try.call40 rfl (c_Records _ _ _ _ _ _ _ (by first | omega | (rw [unit_length]; omega) | (rw [List.length_map]; omega) | decide) (by first | omega | (rw [unit_length]; omega) | (rw [List.length_map]; omega) | decide) _ (vec_rd (S56.at 0 rfl)) (vec_rd (S56.at 5 rfl)) (vec_rd (S56.at 4 rfl))) ?_
  rintro _ w59 ⟨s7659, rfl, hN7659, hl7659⟩
  rw [if_pos hq0B, hq1B] at hN7659
  have S60 := S56.add hl7659 hN7659
  refine l_x rfl (x_mv rfl) ?_
  refine l_x rfl (x_extract rfl rfl) ?_
  refine l_x rfl (x_extract rfl rfl) ?_
  refine l_x rfl (x_as rfl) ?_
  refine l_x rfl (x_as rfl) ?_
  refine l_nil ?_
  refine r_seq ?_
  refine r_seq ?_
  refine r_slot 20 (.int .i64 0) (congrArg (Value.int .i64) hq0B) ?_
  refine r_region ?_
  refine l_x rfl (x_mv rfl) ?_
  refine l_x rfl (x_neq rfl rfl) ?_
  refine l_x rfl (x_mv rfl) ?_
  refine l_splitd (d := 81) rfl (fun hg81 => ?_) (fun hg81 => ?_)
  · exact absurd hg81 (by omega)
  · skip
    refine l_x rfl (x_mv rfl) ?_
    refine l_x rfl (x_neq rfl rfl) ?_
    refine l_x rfl (x_pick_f rfl rfl) ?_
    refine l_x rfl (x_mv rfl) ?_
    refine l_splitd (d := 85) rfl (fun hg85 => ?_) (fun hg85 => ?_)
    · exact absurd hg85 (by omega)
    · skip
      refine l_x rfl (x_mv rfl) ?_
      refine l_x rfl (x_neq rfl rfl) ?_
      refine l_x rfl (x_pick_f rfl rfl) ?_
      refine l_x rfl (x_mv rfl) ?_
      refine l_splitd (d := 89) rfl (fun hg89 => ?_) (fun hg89 => ?_)
      · exact absurd hg89 (by omega)
      · skip
        refine l_x rfl (x_mv rfl) ?_
        refine l_x rfl (x_neq rfl rfl) ?_
        refine l_x rfl (x_pick_f rfl rfl) ?_
        refine l_x rfl (x_mv rfl) ?_
        refine l_splitd (d := 93) rfl (fun hg93 => ?_) (fun hg93 => ?_)
        · exact absurd hg93 (by omega)
        · skip
          refine l_x rfl (x_mv rfl) ?_
          refine l_x rfl (x_neq rfl rfl) ?_
          refine l_x rfl (x_pick_f rfl rfl) ?_
          refine l_x rfl (x_mv rfl) ?_
          refine l_splitd (d := 97) rfl (fun hg97 => ?_) (fun hg97 => ?_)
          · exact absurd hg97 (by omega)
          · skip
            refine l_x rfl (x_mv rfl) ?_
            refine l_x rfl (x_neq rfl rfl) ?_
            refine l_x rfl (x_pick_f rfl rfl) ?_
            refine l_x rfl (x_mv rfl) ?_
            refine l_splitd (d := 101) rfl (fun hg101 => ?_) (fun hg101 => ?_)
            · exact absurd hg101 (by omega)
            · skip
              refine l_x rfl (x_mv rfl) ?_
              refine l_x rfl (x_neq rfl rfl) ?_
              refine l_x rfl (x_pick_f rfl rfl) ?_
              refine l_x rfl (x_mv rfl) ?_
              refine l_splitd (d := 105) rfl (fun hg105 => ?_) (fun hg105 => ?_)
              · exact absurd hg105 (by omega)
              · skip
                refine l_x rfl (x_mv rfl) ?_
                refine l_x rfl (x_not rfl) ?_
                refine l_x rfl (x_pick_f rfl rfl) ?_
                refine l_x rfl (x_mv rfl) ?_
                refine l_x rfl (x_mv rfl) ?_
                refine l_x rfl (x_pick_f rfl rfl) ?_
                refine l_x rfl (x_mv rfl) ?_
                refine l_x rfl (x_mv rfl) ?_
                refine l_x rfl (x_len (vec_rd (S60.at 2 rfl)) rfl Try.runUnderlying25) ?_
                refine l_x rfl (x_neq rfl rfl) ?_
                refine l_x rfl (x_pick_f rfl rfl) ?_
                refine l_x rfl (x_mv rfl) ?_
                refine l_splitd (d := 117) rfl (fun hg117 => ?_) (fun hg117 => ?_)
                · exact absurd hg117 (by omega)
                · skip
                  refine l_x rfl (x_mv rfl) ?_
                  refine l_x rfl (x_len (vec_rd (S60.at 3 rfl)) rfl Try.runUnderlying25) ?_
                  refine l_x rfl (x_neq rfl rfl) ?_
                  refine l_x rfl (x_pick_f rfl rfl) ?_
                  refine l_nil ?_
                  refine r_ifd rfl (fun hc121 => ?_) (fun hc121 => ?_)
                  · exact absurd hc121 (by omega)
                  · skip
                    refine r_skip ?_
                    refine r_seq ?_
                    have S61 := S60.pick (L' := [_, _, _, _]) [0, 1, 2, 6] (by decide) rfl
                    refine r_forget [(1, .pointer (some ⟨b6, 0, none⟩)), (6, .int .i64 2), (7, .int .i64 5), (9, .int .i64 9), (10, vx5232), (13, .int .i64 4), (19, s7659)] ⟨rfl, rfl, rfl, rfl, rfl, rfl, rfl, trivial⟩ ?_
                    intro ρ62
                    refine r_region ?_
                    refine l_x rfl (x_load rfl (ld_blks (S61.blk 1 rfl) Try.isAgg24 Try.sizeOf24 rfl rfl)) ?_
                    refine l_call [] [] [_, _, _, _, _] rfl rfl Try.call20 rfl (c_NarrowOk 3 _ netA 1 0 0 7 netN1 _ (vec_rd (S61.at 0 rfl))) ?_
                    rintro _ w63 ⟨vh12463, rfl, hN12463, hl12463⟩
                    rw [netNB] at hN12463
                    have S64 := S61.add hl12463 hN12463
                    refine l_x rfl (x_mv rfl) ?_
                    refine l_x rfl (x_extract rfl rfl) ?_
                    refine l_x rfl (x_extract rfl rfl) ?_
                    refine l_alloc S64 rfl Try.zeroValue24 rfl ?_
                    intro b68 w65 S66 hl67
                    refine l_stores (vs := [_, _]) S66 5 rfl rfl rfl rfl (ones_cons rfl (ones_cons (Rd.one (vec_rd (S66.at 4 rfl))) ones_nil)) Try.sizeOf24 (by first | exact Nat.le_refl _ | simp) (splice_all rfl) ?_
                    intro w69 S70 hk71
                    refine l_x rfl (x_as rfl) ?_
                    refine l_nil ?_
                    refine r_seq ?_
                    have S72 := S70.pick (L' := [_, _, _, _, _, _]) [0, 1, 2, 3, 4, 5] (by decide) rfl
                    refine r_forget [(1, .pointer (some ⟨b6, 0, none⟩)), (6, .int .i64 2), (7, .int .i64 5), (9, .int .i64 9), (10, vx5232), (13, .int .i64 4), (19, s7659), (21, .pointer (some ⟨b68, 0, none⟩)), (22, .int .i64 0)] ⟨rfl, rfl, rfl, rfl, rfl, rfl, rfl, rfl, rfl, trivial⟩ ?_
                    intro ρ73
                    refine r_region ?_
                    refine l_x rfl (x_load rfl (ld_blks (S72.blk 5 rfl) Try.isAgg24 Try.sizeOf24 rfl rfl)) ?_
                    refine l_call [] [] [_, _, _, _, _] rfl rfl Try.call20 rfl (c_NarrowOk 3 _ netB 3 0 1 8 netN2 _ (vec_rd (S72.at 4 rfl))) ?_
                    rintro _ w74 ⟨vh12974, rfl, hN12974, hl12974⟩
                    rw [netNC] at hN12974
                    have S75 := S72.add hl12974 hN12974
                    refine l_x rfl (x_mv rfl) ?_
                    refine l_x rfl (x_extract rfl rfl) ?_
                    refine l_x rfl (x_extract rfl rfl) ?_
                    refine l_alloc S75 rfl Try.zeroValue24 rfl ?_
                    intro b79 w76 S77 hl78
                    refine l_stores (vs := [_, _]) S77 7 rfl rfl rfl rfl (ones_cons rfl (ones_cons (Rd.one (vec_rd (S77.at 6 rfl))) ones_nil)) Try.sizeOf24 (by first | exact Nat.le_refl _ | simp) (splice_all rfl) ?_
                    intro w80 S81 hk82
                    refine l_x rfl (x_as rfl) ?_
                    refine l_nil ?_
                    refine r_seq ?_
                    have S83 := S81.pick (L' := [_, _, _, _, _, _]) [0, 1, 2, 3, 6, 7] (by decide) rfl
                    refine r_forget [(1, .pointer (some ⟨b6, 0, none⟩)), (6, .int .i64 2), (7, .int .i64 5), (9, .int .i64 9), (10, vx5232), (13, .int .i64 4), (19, s7659), (22, .int .i64 0), (23, .pointer (some ⟨b79, 0, none⟩)), (24, .int .i64 0)] ⟨rfl, rfl, rfl, rfl, rfl, rfl, rfl, rfl, rfl, rfl, trivial⟩ ?_
                    intro ρ84
                    refine r_region ?_
                    refine l_x rfl (x_load rfl (ld_blks (S83.blk 5 rfl) Try.isAgg24 Try.sizeOf24 rfl rfl)) ?_
                    refine l_call [] [] [_] rfl rfl Try.call44 rfl (c_Obstacle _ _ _ _ (vec_rd (S83.at 4 rfl))) ?_
                    rintro _ w85 ⟨A13485, vn13485, ns13485, is13485, e13485, rfl, hN13485, hl13485, hR13485⟩
                    have S86 := S83.add hl13485 hN13485
                    obtain ⟨rfl, rfl, rfl, rfl⟩ := netO hR13485
                    refine l_x rfl (x_mv rfl) ?_
                    refine l_x rfl (x_extract rfl rfl) ?_
                    refine l_x rfl (x_extract rfl rfl) ?_
                    refine l_x rfl (x_extract rfl rfl) ?_
                    refine l_alloc S86 rfl Try.zeroValue43 rfl ?_
                    intro b90 w87 S88 hl89
                    refine l_stores (vs := [_, _]) S88 7 rfl rfl rfl rfl (ones_cons rfl (ones_cons (Rd.one (vec_rd (S88.at 6 rfl))) ones_nil)) Try.sizeOf43 (by first | exact Nat.le_refl _ | simp) (splice_all rfl) ?_
                    intro w91 S92 hk93
                    refine l_x rfl (x_as rfl) ?_
                    refine l_x rfl (x_as rfl) ?_
                    refine l_nil ?_
                    refine r_seq ?_
                    have S94 := S92.pick (L' := [_, _, _, _, _, _, _, _]) [0, 1, 2, 3, 4, 5, 6, 7] (by decide) rfl
                    refine r_forget [(1, .pointer (some ⟨b6, 0, none⟩)), (6, .int .i64 2), (7, .int .i64 5), (9, .int .i64 9), (10, vx5232), (13, .int .i64 4), (19, s7659), (22, .int .i64 0), (23, .pointer (some ⟨b79, 0, none⟩)), (24, .int .i64 0), (25, .pointer (some ⟨b90, 0, none⟩)), (26, .bool true), (27, .int .i64 0)] ⟨rfl, rfl, rfl, rfl, rfl, rfl, rfl, rfl, rfl, rfl, rfl, rfl, rfl, trivial⟩ ?_
                    intro ρ95
                    refine r_region ?_
                    refine l_x rfl (x_load rfl (ld_blks (S94.blk 5 rfl) Try.isAgg24 Try.sizeOf24 rfl rfl)) ?_
                    refine l_x rfl (x_load rfl (ld_blks (S94.blk 7 rfl) Try.isAgg43 Try.sizeOf43 rfl rfl)) ?_
                    refine l_call [] [] [_, _] rfl rfl Try.call27 rfl (c_ObstacleRecords _ _ _ _ _ _ (by first | omega | (rw [unit_length]; omega) | (rw [List.length_map]; omega) | decide) _ (vec_rd (S94.at 4 rfl)) (vec_rd (S94.at 6 rfl))) ?_
                    rintro _ w96 ⟨s14196, rfl, hN14196, hl14196⟩
                    rw [if_pos netO1, netO2] at hN14196
                    have S97 := S94.add hl14196 hN14196
                    refine l_x rfl (x_mv rfl) ?_
                    refine l_x rfl (x_extract rfl rfl) ?_
                    refine l_x rfl (x_extract rfl rfl) ?_
                    refine l_x rfl (x_as rfl) ?_
                    refine l_x rfl (x_as rfl) ?_
                    refine l_nil ?_
                    refine r_seq ?_
                    refine r_seq ?_
                    refine r_slot 29 (.int .i64 0) (congrArg (Value.int .i64) netO1) ?_
                    refine r_region ?_
                    refine l_x rfl (x_mv rfl) ?_
                    refine l_x rfl (x_neq rfl rfl) ?_
                    refine l_x rfl (x_mv rfl) ?_
                    refine l_splitd (d := 146) rfl (fun hg146 => ?_) (fun hg146 => ?_)
                    · exact absurd hg146 (by omega)
                    · skip
                      refine l_x rfl (x_mv rfl) ?_
                      refine l_x rfl (x_neq rfl rfl) ?_
                      refine l_x rfl (x_pick_f rfl rfl) ?_
                      refine l_x rfl (x_mv rfl) ?_
                      refine l_splitd (d := 150) rfl (fun hg150 => ?_) (fun hg150 => ?_)
                      · exact absurd hg150 (by omega)
                      · skip
                        refine l_x rfl (x_mv rfl) ?_
                        refine l_x rfl (x_neq rfl rfl) ?_
                        refine l_x rfl (x_pick_f rfl rfl) ?_
                        refine l_x rfl (x_mv rfl) ?_
                        refine l_splitd (d := 154) rfl (fun hg154 => ?_) (fun hg154 => ?_)
                        · exact absurd hg154 (by omega)
                        · skip
                          refine l_x rfl (x_mv rfl) ?_
                          refine l_x rfl (x_neq rfl rfl) ?_
                          refine l_x rfl (x_pick_f rfl rfl) ?_
                          refine l_x rfl (x_mv rfl) ?_
                          refine l_splitd (d := 158) rfl (fun hg158 => ?_) (fun hg158 => ?_)
                          · exact absurd hg158 (by omega)
                          · skip
                            refine l_x rfl (x_mv rfl) ?_
                            refine l_x rfl (x_not rfl) ?_
                            refine l_x rfl (x_pick_f rfl rfl) ?_
                            refine l_x rfl (x_mv rfl) ?_
                            refine l_x rfl (x_fieldAddr rfl Try.runUnderlying43 rfl Try.sizeOf3 (by decide)) ?_
                            refine l_x rfl (x_load rfl (ld_blk (S97.blk 7 rfl) Try.isAgg3 rfl)) ?_
                            refine l_x rfl (x_neq rfl rfl) ?_
                            refine l_x rfl (x_pick_f rfl rfl) ?_
                            refine l_nil ?_
                            refine r_ifd rfl (fun hc166 => ?_) (fun hc166 => ?_)
                            · exact absurd hc166 (by omega)
                            · skip
                              refine r_skip ?_
                              refine r_seq ?_
                              have S98 := S97.pick (L' := [_, _, _]) [2, 3, 8] (by decide) rfl
                              refine r_forget [(6, .int .i64 2), (7, .int .i64 5), (9, .int .i64 9), (10, vx5232), (13, .int .i64 4), (19, s7659), (28, s14196)] ⟨rfl, rfl, rfl, rfl, rfl, rfl, rfl, trivial⟩ ?_
                              intro ρ99
                              refine r_region ?_
                              refine l_x rfl (x_mv rfl) ?_
                              refine l_x rfl (x_eql rfl rfl) ?_
                              refine l_x rfl (x_mv rfl) ?_
                              refine l_splitd (d := 169) rfl (fun hg169 => ?_) (fun hg169 => ?_)
                              · skip
                                refine l_x rfl (x_mv rfl) ?_
                                refine l_x rfl (x_eql rfl rfl) ?_
                                refine l_x rfl (x_pick_t rfl rfl) ?_
                                refine l_x rfl (x_mv rfl) ?_
                                refine l_splitd (d := 173) rfl (fun hg173 => ?_) (fun hg173 => ?_)
                                · skip
                                  refine l_x rfl (x_mv rfl) ?_
                                  refine l_x rfl (x_eql rfl rfl) ?_
                                  refine l_x rfl (x_pick_t rfl rfl) ?_
                                  refine l_x rfl (x_mv rfl) ?_
                                  refine l_splitd (d := 177) rfl (fun hg177 => ?_) (fun hg177 => ?_)
                                  · skip
                                    refine l_x rfl (x_mv rfl) ?_
                                    refine l_x rfl (x_eql rfl rfl) ?_
                                    refine l_x rfl (x_pick_t rfl rfl) ?_
                                    refine l_x rfl (x_mv rfl) ?_
                                    refine l_splitd (d := 181) rfl (fun hg181 => ?_) (fun hg181 => ?_)
                                    · skip
                                      refine l_x rfl (x_mv rfl) ?_
                                      refine l_index EI rfl (vec_rd (S98.at 0 rfl)) rfl rfl Try.runUnderlying25 Try.sizeOf3 (by omega) hx0A ?_
                                      intro b100 o101 hat102 row103
                                      refine l_x rfl (x_load rfl (ld_cell Try.isAgg3 (row103 0 _ rfl))) ?_
                                      refine l_x rfl (x_eql rfl rfl) ?_
                                      refine l_x rfl (x_pick_t rfl rfl) ?_
                                      refine l_x rfl (x_mv rfl) ?_
                                      refine l_splitd (d := 187) rfl (fun hg187 => ?_) (fun hg187 => ?_)
                                      · skip
                                        refine l_x rfl (x_mv rfl) ?_
                                        refine l_buildSlice EI [3] S98 rfl Try.runUnderlying25 Try.sizeOf3 Try.zeroValue3 rfl ⟨rfl, rfl, trivial⟩ (Nat.le_of_ble_eq_true rfl) ?_
                                        intro v107 w104 S105 hl106
                                        refine l_call [] [] [_, _] rfl rfl Try.call29 rfl (c_SameInts _ _ _ _ (by first | omega | (simp; done) | (simp; omega)) _ (vec_rd (S105.at 1 rfl)) (vec_rd (S105.at 3 rfl))) ?_
                                        rintro _ w108 ⟨rfl, hl110⟩
                                        have S109 := S105.step hl110
                                        refine l_x rfl (x_pick_t rfl rfl) ?_
                                        refine l_x rfl (x_mv rfl) ?_
                                        refine l_split (d := 192) rfl (fun hg192 => ?_) (fun hg192 => ?_)
                                        · skip
                                          refine l_x rfl (x_mv rfl) ?_
                                          refine l_buildSlice EI [1, 7, 8] S109 rfl Try.runUnderlying25 Try.sizeOf3 Try.zeroValue3 rfl ⟨rfl, rfl, rfl, rfl, rfl, rfl, trivial⟩ (Nat.le_of_ble_eq_true rfl) ?_
                                          intro v114 w111 S112 hl113
                                          refine l_call [] [] [_, _] rfl rfl Try.call29 rfl (c_SameInts _ _ _ _ (by first | omega | (simp; done) | (simp; omega)) _ (vec_rd (S112.at 2 rfl)) (vec_rd (S112.at 4 rfl))) ?_
                                          rintro _ w115 ⟨rfl, hl117⟩
                                          have S116 := S112.step hl117
                                          refine l_x rfl (x_pick_t rfl rfl) ?_
                                          refine l_x rfl (x_as rfl) ?_
                                          refine l_nil ?_
                                          refine r_ret (rs := [.tmp 0]) [_] Try.func19 rfl ⟨rfl, trivial⟩ ?_
                                          exact ⟨congrArg Value.bool (decide_eq_true rfl), S116.le⟩
                                        · exact absurd hg192 (by decide)
                                      · exact absurd rfl hg187
                                    · exact absurd rfl hg181
                                  · exact absurd rfl hg177
                                · exact absurd rfl hg173
                              · exact absurd rfl hg169

end Go.Proofs

/-
  Contracts of functions of the program: each by symbolic execution of its text.
-/
namespace Go.Proofs
open Go Go.Vk Go.Vk.Flow

/-- couchant/couchantlaw06.small. -/
theorem c_small (N : Int) (va : Value) (arcs : List Arc) (w : World) (hA : Rd EA w va arcs) :
    Cl Try.prog 18 #[.agg #[.int .i64 N, va]] w fun v w' => v = .bool (smallB N arcs.length) ∧ Le w w' := by
  refine fn_of_run (args := [_]) 29 Try.func18 rfl rfl rfl fun cs => ?_
  have S := Own.start (X := nob) w
  refine r_seq ?_
  refine r_region ?_
  refine l_box S rfl rfl ?_
  intro b4 w1 S2 hl3
  refine l_x rfl (x_as rfl) ?_
  refine l_nil ?_
  refine r_seq ?_
  refine r_region ?_
  refine l_x rfl (x_fieldAddr rfl Try.runUnderlying24 rfl Try.sizeOf22 (by decide)) ?_
  refine l_x rfl (x_load rfl (ld_blk (S2.blk 0 rfl) Try.isAgg22 rfl)) ?_
  refine l_x rfl (x_len (hA.le S2.le) rfl Try.runUnderlying22) ?_
  refine l_x rfl (x_leq rfl rfl) ?_
  refine l_x rfl (x_mv rfl) ?_
  refine l_splitd (d := 7) rfl (fun hg7 => ?_) (fun hg7 => ?_)
  · skip
    refine l_x rfl (x_fieldAddr rfl Try.runUnderlying24 rfl Try.sizeOf3 (by decide)) ?_
    refine l_x rfl (x_load rfl (ld_blk (S2.blk 0 rfl) Try.isAgg3 rfl)) ?_
    refine l_x rfl (x_leq rfl rfl) ?_
    refine l_x rfl (x_mv rfl) ?_
    refine l_splitd (d := 11) rfl (fun hg11 => ?_) (fun hg11 => ?_)
    · skip
      refine l_pass rfl ?_
      refine l_pass rfl ?_
      refine l_pass rfl ?_
      refine l_x rfl (x_pick_t rfl rfl) ?_
      refine l_x rfl (x_pick_t rfl rfl) ?_
      refine l_x rfl (x_mv rfl) ?_
      refine l_pass rfl ?_
      refine l_pass rfl ?_
      refine l_pass rfl ?_
      refine l_pass rfl ?_
      refine l_pass rfl ?_
      refine l_pass rfl ?_
      refine l_pass rfl ?_
      refine l_pass rfl ?_
      refine l_pass rfl ?_
      refine l_pass rfl ?_
      refine l_x rfl (x_pick_t rfl rfl) ?_
      refine l_x rfl (x_as rfl) ?_
      refine l_nil ?_
      refine r_ret (rs := [.tmp 2]) [_] Try.func18 rfl ⟨rfl, trivial⟩ ?_
      exact ⟨congrArg Value.bool (Bool.eq_iff_iff.2 (by simp [smallB]; omega)), S2.le⟩
    · skip
      refine l_x rfl (x_fieldAddr rfl Try.runUnderlying24 rfl Try.sizeOf3 (by decide)) ?_
      refine l_x rfl (x_load rfl (ld_blk (S2.blk 0 rfl) Try.isAgg3 rfl)) ?_
      refine l_x rfl (x_gtr rfl rfl) ?_
      refine l_x rfl (x_pick_f rfl rfl) ?_
      refine l_x rfl (x_pick_t rfl rfl) ?_
      refine l_x rfl (x_mv rfl) ?_
      refine l_splitd (d := 17) rfl (fun hg17 => ?_) (fun hg17 => ?_)
      · skip
        refine l_pass rfl ?_
        refine l_pass rfl ?_
        refine l_pass rfl ?_
        refine l_pass rfl ?_
        refine l_pass rfl ?_
        refine l_pass rfl ?_
        refine l_pass rfl ?_
        refine l_pass rfl ?_
        refine l_pass rfl ?_
        refine l_pass rfl ?_
        refine l_x rfl (x_pick_t rfl rfl) ?_
        refine l_x rfl (x_as rfl) ?_
        refine l_nil ?_
        refine r_ret (rs := [.tmp 2]) [_] Try.func18 rfl ⟨rfl, trivial⟩ ?_
        exact ⟨congrArg Value.bool (Bool.eq_iff_iff.2 (by simp [smallB]; omega)), S2.le⟩
      · skip
        refine l_x rfl (x_fieldAddr rfl Try.runUnderlying24 rfl Try.sizeOf22 (by decide)) ?_
        refine l_x rfl (x_load rfl (ld_blk (S2.blk 0 rfl) Try.isAgg22 rfl)) ?_
        refine l_x rfl (x_len (hA.le S2.le) rfl Try.runUnderlying22) ?_
        refine l_x rfl (x_gtr rfl rfl) ?_
        refine l_x rfl (x_mv rfl) ?_
        refine l_splitd (d := 22) rfl (fun hg22 => ?_) (fun hg22 => ?_)
        · skip
          refine l_x rfl (x_fieldAddr rfl Try.runUnderlying24 rfl Try.sizeOf22 (by decide)) ?_
          refine l_x rfl (x_load rfl (ld_blk (S2.blk 0 rfl) Try.isAgg22 rfl)) ?_
          refine l_x rfl (x_len (hA.le S2.le) rfl Try.runUnderlying22) ?_
          refine l_x rfl (x_leq rfl rfl) ?_
          refine l_x rfl (x_pick_t rfl rfl) ?_
          refine l_x rfl (x_pick_f rfl rfl) ?_
          refine l_x rfl (x_as rfl) ?_
          refine l_nil ?_
          refine r_ret (rs := [.tmp 2]) [_] Try.func18 rfl ⟨rfl, trivial⟩ ?_
          exact ⟨congrArg Value.bool (Bool.eq_iff_iff.2 (by simp [smallB]; omega)), S2.le⟩
        · skip
          refine l_pass rfl ?_
          refine l_pass rfl ?_
          refine l_pass rfl ?_
          refine l_pass rfl ?_
          refine l_x rfl (x_pick_f rfl rfl) ?_
          refine l_x rfl (x_pick_f rfl rfl) ?_
          refine l_x rfl (x_as rfl) ?_
          refine l_nil ?_
          refine r_ret (rs := [.tmp 2]) [_] Try.func18 rfl ⟨rfl, trivial⟩ ?_
          exact ⟨congrArg Value.bool (Bool.eq_iff_iff.2 (by simp [smallB]; omega)), S2.le⟩
  · skip
    refine l_pass rfl ?_
    refine l_pass rfl ?_
    refine l_pass rfl ?_
    refine l_pass rfl ?_
    refine l_pass rfl ?_
    refine l_pass rfl ?_
    refine l_pass rfl ?_
    refine l_pass rfl ?_
    refine l_x rfl (x_pick_f rfl rfl) ?_
    refine l_x rfl (x_mv rfl) ?_
    refine l_x rfl (x_fieldAddr rfl Try.runUnderlying24 rfl Try.sizeOf22 (by decide)) ?_
    refine l_x rfl (x_load rfl (ld_blk (S2.blk 0 rfl) Try.isAgg22 rfl)) ?_
    refine l_x rfl (x_len (hA.le S2.le) rfl Try.runUnderlying22) ?_
    refine l_x rfl (x_gtr rfl rfl) ?_
    refine l_x rfl (x_mv rfl) ?_
    refine l_splitd (d := 22) rfl (fun hg22 => ?_) (fun hg22 => ?_)
    · skip
      refine l_x rfl (x_fieldAddr rfl Try.runUnderlying24 rfl Try.sizeOf22 (by decide)) ?_
      refine l_x rfl (x_load rfl (ld_blk (S2.blk 0 rfl) Try.isAgg22 rfl)) ?_
      refine l_x rfl (x_len (hA.le S2.le) rfl Try.runUnderlying22) ?_
      refine l_x rfl (x_leq rfl rfl) ?_
      refine l_x rfl (x_pick_t rfl rfl) ?_
      refine l_x rfl (x_pick_f rfl rfl) ?_
      refine l_x rfl (x_as rfl) ?_
      refine l_nil ?_
      refine r_ret (rs := [.tmp 2]) [_] Try.func18 rfl ⟨rfl, trivial⟩ ?_
      exact ⟨congrArg Value.bool (Bool.eq_iff_iff.2 (by simp [smallB]; omega)), S2.le⟩
    · skip
      refine l_pass rfl ?_
      refine l_pass rfl ?_
      refine l_pass rfl ?_
      refine l_pass rfl ?_
      refine l_x rfl (x_pick_f rfl rfl) ?_
      refine l_x rfl (x_pick_f rfl rfl) ?_
      refine l_x rfl (x_as rfl) ?_
      refine l_nil ?_
      refine r_ret (rs := [.tmp 2]) [_] Try.func18 rfl ⟨rfl, trivial⟩ ?_
      exact ⟨congrArg Value.bool (Bool.eq_iff_iff.2 (by simp [smallB]; omega)), S2.le⟩

/-- couchant/couchantlaw06.short. -/
theorem c_short (va vb vc : Value) (a b c : List Int) (w : World) (Ha : Rd EI w va a) (Hb : Rd EI w vb b) (Hc : Rd EI w vc c) :
    Cl Try.prog 30 #[va, vb, vc] w fun v w' => v = .bool (decide (a.length ≤ 200 ∧ b.length ≤ 200 ∧ c.length ≤ 200)) ∧ Le w w' := by
  refine fn_of_run (args := [_, _, _]) 20 Try.func30 rfl rfl rfl fun cs => ?_
  have S := Own.start (X := nob) w
  refine r_seq ?_
  refine r_region ?_
  refine l_x rfl (x_as rfl) ?_
  refine l_nil ?_
  refine r_seq ?_
  refine r_region ?_
  refine l_x rfl (x_mv rfl) ?_
  refine l_x rfl (x_len (Ha.le S.le) rfl Try.runUnderlying25) ?_
  refine l_x rfl (x_leq rfl rfl) ?_
  refine l_x rfl (x_mv rfl) ?_
  refine l_splitd (d := 10) rfl (fun hg10 => ?_) (fun hg10 => ?_)
  · skip
    refine l_x rfl (x_mv rfl) ?_
    refine l_x rfl (x_len (Hb.le S.le) rfl Try.runUnderlying25) ?_
    refine l_x rfl (x_leq rfl rfl) ?_
    refine l_x rfl (x_pick_t rfl rfl) ?_
    refine l_x rfl (x_mv rfl) ?_
    refine l_splitd (d := 15) rfl (fun hg15 => ?_) (fun hg15 => ?_)
    · skip
      refine l_x rfl (x_mv rfl) ?_
      refine l_x rfl (x_len (Hc.le S.le) rfl Try.runUnderlying25) ?_
      refine l_x rfl (x_leq rfl rfl) ?_
      refine l_x rfl (x_pick_t rfl rfl) ?_
      refine l_x rfl (x_as rfl) ?_
      refine l_nil ?_
      refine r_ret (rs := [.tmp 6]) [_] Try.func30 rfl ⟨rfl, trivial⟩ ?_
      exact ⟨congrArg Value.bool (Bool.eq_iff_iff.2 (by simp; omega)), S.le⟩
    · skip
      refine l_pass rfl ?_
      refine l_pass rfl ?_
      refine l_pass rfl ?_
      refine l_x rfl (x_pick_f rfl rfl) ?_
      refine l_x rfl (x_as rfl) ?_
      refine l_nil ?_
      refine r_ret (rs := [.tmp 6]) [_] Try.func30 rfl ⟨rfl, trivial⟩ ?_
      exact ⟨congrArg Value.bool (Bool.eq_iff_iff.2 (by simp; omega)), S.le⟩
  · skip
    refine l_pass rfl ?_
    refine l_pass rfl ?_
    refine l_pass rfl ?_
    refine l_x rfl (x_pick_f rfl rfl) ?_
    refine l_x rfl (x_mv rfl) ?_
    refine l_pass rfl ?_
    refine l_pass rfl ?_
    refine l_pass rfl ?_
    refine l_x rfl (x_pick_f rfl rfl) ?_
    refine l_x rfl (x_as rfl) ?_
    refine l_nil ?_
    refine r_ret (rs := [.tmp 6]) [_] Try.func30 rfl ⟨rfl, trivial⟩ ?_
    exact ⟨congrArg Value.bool (Bool.eq_iff_iff.2 (by simp; omega)), S.le⟩

end Go.Proofs

/-
  What the rows need: how arguments are opened.
-/
namespace Go.Proofs
open Go Go.Vk Go.Vk.Flow

open Go.ChangeShapes Go.WideShapes Go.RowKit Go.Joins
theorem ownT : ownKnob Try.prog.godebug = none := by kernel_rfl
theorem laidT : laidOutB Try.prog = true := by kernel_rfl
theorem cellsA : Try.prog.cellsOf 39 = 6 := by kernel_rfl
theorem cellsN : Try.prog.cellsOf 24 = 2 := by kernel_rfl
theorem cellsO : Try.prog.cellsOf 43 = 2 := by kernel_rfl
section
variable {H : Type} {enc : TypeId × Value → H} {W : World} {base : Nat} {sp : Nat → Bool} {held : Bool} {r : Reach} {b0 : Nat}
theorem arcDec (fuel : Nat) (cs : List Value) (y : DataW H × List MemPlace) (hl : cs.length = EA.sz) (hy : DataW.trod enc Try.prog W base sp held fuel EA.T cs = some y) : ∃ a, cs = EA.enc a :=
  dec_arc Try.underlying39 Try.underlying3 cellsI (fun i hi => by
    match i, hi with
    | 0, _ => exact ⟨_, rfl, rfl, rfl⟩
    | 1, _ => exact ⟨_, rfl, rfl, rfl⟩
    | 2, _ => exact ⟨_, rfl, rfl, rfl⟩
    | 3, _ => exact ⟨_, rfl, rfl, rfl⟩
    | 4, _ => exact ⟨_, rfl, rfl, rfl⟩
    | 5, _ => exact ⟨_, rfl, rfl, rfl⟩) rfl fuel cs y hl hy
set_option maxRecDepth 100000 in
theorem openInts {v : Value} {d : DataW H} {p : List MemPlace} (hv : Value.okWide Try.prog W r b0 25 v) (h : DataW.Trod enc Try.prog W base sp held 25 v d p) : ∃ l, Rd EI W v l ∧ l.length ≤ maxLen := by
  obtain ⟨a, len, cap, rfl⟩ := okWide_slice Try.underlying25 hv
  obtain ⟨fuel, hf⟩ := h
  exact rd_of EI Try.underlying25 cellsI (fun fuel cs y hl hy => dec_int Try.underlying3 fuel cs y hl hy) hf
set_option maxRecDepth 100000 in
theorem openNet {v : Value} {d : DataW H} {p : List MemPlace} (hv : Value.okWide Try.prog W r b0 24 v) (h : DataW.Trod enc Try.prog W base sp held 24 v d p) : ∃ N va arcs, v = .agg #[.int .i64 N, va] ∧ Rd EA W va arcs ∧ arcs.length ≤ maxLen := by
  obtain ⟨v0, v1, y0, y1, n, rfl, _, _, h0, h1⟩ := open_agg2 Try.underlying24 (by kernel_rfl) cellsN hv h
  obtain ⟨N, e, _, _⟩ := DataW.trod_int Try.underlying3 h0
  simp at e
  subst e
  obtain ⟨l, hl, hm⟩ := rd_of EA Try.underlying22 cellsA arcDec h1
  exact ⟨N, v1, l, rfl, hl, hm⟩
set_option maxRecDepth 100000 in
theorem openObs {v : Value} {d : DataW H} {p : List MemPlace} (hv : Value.okWide Try.prog W r b0 43 v) (h : DataW.Trod enc Try.prog W base sp held 43 v d p) : ∃ A vn ns, v = .agg #[.int .i64 A, vn] ∧ Rd EI W vn ns ∧ ns.length ≤ maxLen := by
  obtain ⟨v0, v1, y0, y1, n, rfl, _, _, h0, h1⟩ := open_agg2 Try.underlying43 (by kernel_rfl) cellsO hv h
  obtain ⟨N, e, _, _⟩ := DataW.trod_int Try.underlying3 h0
  simp at e
  subst e
  obtain ⟨l, hl, hm⟩ := rd_of EI Try.underlying25 cellsI (fun fuel cs y hl hy => dec_int Try.underlying3 fuel cs y hl hy) h1
  exact ⟨N, v1, l, rfl, hl, hm⟩
end

end Go.Proofs

/-
  Contracts of functions of the program: each by symbolic execution of its text.
-/
namespace Go.Proofs
open Go Go.Vk Go.Vk.Flow

theorem c_KeptR (N : Int) (va : Value) (arcs : List Arc) (vx : Value) (x : List Int) (hmx : x.length ≤ 9223372036854775807) (w : World) (hA : Rd EA w va arcs) (Hx : Rd EI w vx x) :
    Cl Try.prog 21 #[.agg #[.int .i64 N, va], vx] w fun v w' => ∃ k e, v = .tuple #[.bool k, .int .i64 e] ∧ Le w w' ∧ KeptR N arcs x k e :=
  (c_Kept N va arcs vx x hmx w hA Hx).mono fun _ _ ⟨h1, h2⟩ => ⟨_, _, h1, h2, KeptR.of⟩

theorem c_KeptR2 (N : Int) (va : Value) (arcs : List Arc) (vx : Value) (x : List Int) (hmx : x.length ≤ 9223372036854775807) (w : World) (hA : Rd EA w va arcs) (Hx : Rd EI w vx x) :
    Cl Try.prog 21 #[.agg #[.int .i64 N, va], vx] w fun v w' => (∃ e, v = .tuple #[.bool true, .int .i64 e] ∧ Le w w' ∧ KeptR N arcs x true e) ∨ ∃ e, v = .tuple #[.bool false, .int .i64 e] ∧ Le w w' ∧ KeptR N arcs x false e :=
  (c_KeptR N va arcs vx x hmx w hA Hx).mono fun _ _ ⟨k, e, h1, h2, h3⟩ => by
    cases k
    · exact .inr ⟨e, h1, h2, h3⟩
    · exact .inl ⟨e, h1, h2, h3⟩

theorem c_SumR (N : Int) (va : Value) (arcs : List Arc) (vw : Value) (wl : List Int) (vx : Value) (x : List Int) (hmwl : wl.length ≤ 9223372036854775807) (hmx : x.length ≤ 9223372036854775807) (w : World) (hA : Rd EA w va arcs) (Hwl : Rd EI w vw wl) (Hx : Rd EI w vx x) :
    Cl Try.prog 32 #[.agg #[.int .i64 N, va], vw, vx] w fun v w' => ∃ k e, v = .tuple #[.int .i64 k, .int .i64 e] ∧ Le w w' ∧ SumR N arcs wl x k e :=
  (c_Sum N va arcs vw wl vx x hmwl hmx w hA Hwl Hx).mono fun _ _ ⟨h1, h2⟩ => ⟨_, _, h1, h2, SumR.of⟩

theorem c_BoundR (N : Int) (va : Value) (arcs : List Arc) (vw : Value) (wl : List Int) (vp : Value) (p : List Int) (hmwl : wl.length ≤ 9223372036854775807) (hmp : p.length ≤ 9223372036854775807) (w : World) (hA : Rd EA w va arcs) (Hwl : Rd EI w vw wl) (Hp : Rd EI w vp p) :
    Cl Try.prog 34 #[.agg #[.int .i64 N, va], vw, vp] w fun v w' => ∃ k e, v = .tuple #[.int .i64 k, .int .i64 e] ∧ Le w w' ∧ BoundR N arcs wl p k e :=
  (c_Bound N va arcs vw wl vp p hmwl hmp w hA Hwl Hp).mono fun _ _ ⟨h1, h2⟩ => ⟨_, _, h1, h2, BoundR.of⟩

theorem c_CheckBestR (N : Int) (va : Value) (arcs : List Arc) (vw : Value) (wl : List Int) (vx : Value) (x : List Int) (vp : Value) (p : List Int) (hmwl : wl.length ≤ 9223372036854775807) (hmx : x.length ≤ 9223372036854775807) (hmp : p.length ≤ 9223372036854775807) (w : World) (hA : Rd EA w va arcs) (Hwl : Rd EI w vw wl) (Hx : Rd EI w vx x) (Hp : Rd EI w vp p) :
    Cl Try.prog 38 #[.agg #[.int .i64 N, va], vw, vx, vp] w fun v w' => ∃ k e, v = .tuple #[.bool k, .int .i64 e] ∧ Le w w' ∧ BestR N arcs wl x p k e :=
  (c_CheckBest N va arcs vw wl vx x vp p hmwl hmx hmp w hA Hwl Hx Hp).mono fun _ _ ⟨h1, h2⟩ => ⟨_, _, h1, h2, BestR.of⟩

theorem c_CheckBestR2 (N : Int) (va : Value) (arcs : List Arc) (vw : Value) (wl : List Int) (vx : Value) (x : List Int) (vp : Value) (p : List Int) (hmwl : wl.length ≤ 9223372036854775807) (hmx : x.length ≤ 9223372036854775807) (hmp : p.length ≤ 9223372036854775807) (w : World) (hA : Rd EA w va arcs) (Hwl : Rd EI w vw wl) (Hx : Rd EI w vx x) (Hp : Rd EI w vp p) :
    Cl Try.prog 38 #[.agg #[.int .i64 N, va], vw, vx, vp] w fun v w' => (∃ e, v = .tuple #[.bool true, .int .i64 e] ∧ Le w w' ∧ BestR N arcs wl x p true e) ∨ ∃ e, v = .tuple #[.bool false, .int .i64 e] ∧ Le w w' ∧ BestR N arcs wl x p false e :=
  (c_CheckBestR N va arcs vw wl vx x vp p hmwl hmx hmp w hA Hwl Hx Hp).mono fun _ _ ⟨k, e, h1, h2, h3⟩ => by
    cases k
    · exact .inr ⟨e, h1, h2, h3⟩
    · exact .inl ⟨e, h1, h2, h3⟩

theorem intF : IntFields Try.prog 0 (Try.prog.fieldsOf 39).toList := intFields_of (P := Try.prog) (t := 3) Try.underlying3 Try.isAgg3 (Try.prog.fieldsOf 39).toList 0 (by kernel_rfl)
theorem structA : Try.prog.underlying 39 = some (.struct (Try.prog.fieldsOf 39)) := by kernel_rfl
theorem stoodA : Try.prog.stoodInHeld 39 = false := by kernel_rfl
theorem guardA : Try.prog.eqGuardType Try.prog.depth 39 = false := by kernel_rfl
theorem lenA : (Try.prog.fieldsOf 39).toList.length = 6 := by kernel_rfl
theorem x_neqA {a b : Arc} {w : World} {E : Operand → Value} {x y : Operand} {T ty : TypeId} (hx : E x = .agg a.enc.toArray) (hy : E y = .agg b.enc.toArray) : X Try.prog E (.binOp .neq 39 x y T) ty w (.bool (decide (¬ a = b))) w :=
  x_neqarc structA stoodA guardA intF lenA hx hy
theorem take_sameA {a b : List Arc} {i : Nat} {x y : Arc} (hx : a[i]? = some x) (hy : b[i]? = some y) (e : x = y) (h : a.take i = b.take i) : a.take (i + 1) = b.take (i + 1) := by
  rw [List.take_add_one, List.take_add_one, hx, hy, h, e]

/-- couchant/couchantref06.SameNet. -/
theorem c_SameNet (N M : Int) (va : Value) (a : List Arc) (vb : Value) (b : List Arc) (hm : a.length ≤ 9223372036854775807) (w : World) (Ha : Rd EA w va a) (Hb : Rd EA w vb b) :
    Cl Try.prog 24 #[.agg #[.int .i64 N, va], .agg #[.int .i64 M, vb]] w fun v w' => v = .bool (decide (N = M ∧ a = b)) ∧ Le w w' := by
  refine fn_of_run (args := [_, _]) 38 Try.func24 rfl rfl rfl fun cs => ?_
  have S := Own.start (X := nob) w
  refine r_seq ?_
  refine r_region ?_
  refine l_box S rfl rfl ?_
  intro b4 w1 S2 hl3
  refine l_box S2 rfl rfl ?_
  intro b8 w5 S6 hl7
  refine l_x rfl (x_as rfl) ?_
  refine l_nil ?_
  refine r_seq ?_
  refine r_seq ?_
  refine r_region ?_
  refine l_x rfl (x_fieldAddr rfl Try.runUnderlying24 rfl Try.sizeOf3 (by decide)) ?_
  refine l_x rfl (x_load rfl (ld_blk (S6.blk 0 rfl) Try.isAgg3 rfl)) ?_
  refine l_x rfl (x_fieldAddr rfl Try.runUnderlying24 rfl Try.sizeOf3 (by decide)) ?_
  refine l_x rfl (x_load rfl (ld_blk (S6.blk 1 rfl) Try.isAgg3 rfl)) ?_
  refine l_x rfl (x_neq rfl rfl) ?_
  refine l_x rfl (x_mv rfl) ?_
  refine l_splitd (d := 11) rfl (fun hg11 => ?_) (fun hg11 => ?_)
  · skip
    refine l_pass rfl ?_
    refine l_pass rfl ?_
    refine l_pass rfl ?_
    refine l_pass rfl ?_
    refine l_pass rfl ?_
    refine l_pass rfl ?_
    refine l_pass rfl ?_
    refine l_x rfl (x_pick_t rfl rfl) ?_
    refine l_nil ?_
    refine r_true rfl ?_
    refine r_seq ?_
    refine r_region ?_
    refine l_x rfl (x_as rfl) ?_
    refine l_nil ?_
    refine r_ret (rs := [.tmp 4]) [_] Try.func24 rfl ⟨rfl, trivial⟩ ?_
    exact ⟨congrArg Value.bool (decide_eq_false (fun h => by obtain ⟨rfl, rfl⟩ := h; first | exact hg11 rfl | exact hc19 rfl | omega)).symm, S6.le⟩
  · skip
    refine l_x rfl (x_fieldAddr rfl Try.runUnderlying24 rfl Try.sizeOf22 (by decide)) ?_
    refine l_x rfl (x_load rfl (ld_blk (S6.blk 0 rfl) Try.isAgg22 rfl)) ?_
    refine l_x rfl (x_len (Ha.le S6.le) rfl Try.runUnderlying22) ?_
    refine l_x rfl (x_fieldAddr rfl Try.runUnderlying24 rfl Try.sizeOf22 (by decide)) ?_
    refine l_x rfl (x_load rfl (ld_blk (S6.blk 1 rfl) Try.isAgg22 rfl)) ?_
    refine l_x rfl (x_len (Hb.le S6.le) rfl Try.runUnderlying22) ?_
    refine l_x rfl (x_neq rfl rfl) ?_
    refine l_x rfl (x_pick_f rfl rfl) ?_
    refine l_nil ?_
    refine r_ifd rfl (fun hc19 => ?_) (fun hc19 => ?_)
    · skip
      refine r_seq ?_
      refine r_region ?_
      refine l_x rfl (x_as rfl) ?_
      refine l_nil ?_
      refine r_ret (rs := [.tmp 4]) [_] Try.func24 rfl ⟨rfl, trivial⟩ ?_
      exact ⟨congrArg Value.bool (decide_eq_false (fun h => by obtain ⟨rfl, rfl⟩ := h; first | exact hg11 rfl | exact hc19 rfl | omega)).symm, S6.le⟩
    · skip
      have hab : a.length = b.length := by omega
      have hNM : N = M := Decidable.not_not.1 hg11
      refine r_skip ?_
      refine r_seq ?_
      refine r_seq ?_
      refine r_region ?_
      refine l_x rfl (x_as rfl) ?_
      refine l_nil ?_
      refine r_block ?_
      refine r_loop (G := Nat) (fun i => a.length - i) (fun i => [(2, .pointer (some ⟨b4, 0, none⟩)), (3, .pointer (some ⟨b8, 0, none⟩)), (5, .int .i64 i)]) (fun i w' => (i ≤ a.length) ∧ (a.take i = b.take i) ∧ Own nob w w' [blk b4 [.int .i64 N, va] 24, blk b8 [.int .i64 M, vb] 24]) 0 ⟨rfl, rfl, rfl, trivial⟩ ⟨Nat.zero_le _, by simp, S6⟩ ?_
      rintro i ρ w1 ⟨hi, hs, S1⟩ IH
      refine r_seq ?_
      refine r_seq ?_
      refine r_region ?_
      refine l_x rfl (x_mv rfl) ?_
      refine l_x rfl (x_fieldAddr rfl Try.runUnderlying24 rfl Try.sizeOf22 (by decide)) ?_
      refine l_x rfl (x_load rfl (ld_blk (S1.blk 0 rfl) Try.isAgg22 rfl)) ?_
      refine l_x rfl (x_len (Ha.le S1.le) rfl Try.runUnderlying22) ?_
      refine l_x rfl (x_lss rfl rfl) ?_
      refine l_nil ?_
      refine r_ifd rfl (fun hc24 => ?_) (fun hc24 => ?_)
      · skip
        obtain ⟨x, hx⟩ : ∃ x, a[i]? = some x := ⟨_, List.getElem?_eq_getElem (by omega)⟩
        obtain ⟨y, hy⟩ : ∃ y, b[i]? = some y := ⟨_, List.getElem?_eq_getElem (by omega)⟩
        refine r_skip ?_
        refine r_seq ?_
        refine r_block ?_
        refine r_seq ?_
        refine r_drawR 11 Try.mixed (by kernel_rfl) ?_
        refine w_x rfl (fun w1 h1 => x_fieldAddr rfl Try.runUnderlying24 rfl Try.sizeOf22 (by decide)) ?_
        refine w_x rfl (fun w1 h1 => x_load rfl (ld_blk ((S1.step h1).blk 0 rfl) Try.isAgg22 rfl)) ?_
        refine w_x rfl (fun w1 h1 => x_mv rfl) ?_
        refine w_index EA rfl (Ha.le S1.le) rfl rfl Try.runUnderlying22 Try.sizeOf39 (by omega) (by first | assumption | exact List.getElem?_eq_getElem (by omega)) ?_
        intro b9 o10 hat11 row12
        refine w_x rfl (fun w1 h1 => x_load rfl (ld_row Try.isAgg39 Try.sizeOf39 rfl (row12.le h1))) ?_
        refine w_x rfl (fun w1 h1 => x_fieldAddr rfl Try.runUnderlying24 rfl Try.sizeOf22 (by decide)) ?_
        refine w_x rfl (fun w1 h1 => x_load rfl (ld_blk ((S1.step h1).blk 1 rfl) Try.isAgg22 rfl)) ?_
        refine w_x rfl (fun w1 h1 => x_mv rfl) ?_
        refine w_index EA rfl (Hb.le S1.le) rfl rfl Try.runUnderlying22 Try.sizeOf39 (by omega) (by first | assumption | exact List.getElem?_eq_getElem (by omega)) ?_
        intro b13 o14 hat15 row16
        refine w_x rfl (fun w1 h1 => x_load rfl (ld_row Try.isAgg39 Try.sizeOf39 rfl (row16.le h1))) ?_
        refine w_x rfl (fun w1 h1 => x_neqA rfl rfl) ?_
        refine w_nil ?_
        intro w17 hl18
        have S19 := S1.step hl18
        refine l_nil ?_
        refine r_ifd rfl (fun hc37 => ?_) (fun hc37 => ?_)
        · skip
          refine r_seq ?_
          refine r_region ?_
          refine l_x rfl (x_as rfl) ?_
          refine l_nil ?_
          refine r_ret (rs := [.tmp 4]) [_] Try.func24 rfl ⟨rfl, trivial⟩ ?_
          exact ⟨congrArg Value.bool (decide_eq_false (fun h => by obtain ⟨rfl, rfl⟩ := h; rw [hx] at hy; exact hc37 (Option.some.inj hy))).symm, S19.le⟩
        · skip
          have hc37 : x = y := Decidable.not_not.1 hc37
          refine r_skip ?_
          refine r_inBlock ?_
          refine r_region ?_
          refine l_x rfl (x_mv rfl) ?_
          refine l_x rfl (x_add rfl rfl (by omega)) ?_
          refine l_x rfl (x_as rfl) ?_
          refine l_nil ?_
          exact IH (i + 1) _ _ (by omega) ⟨rfl, rfl, rfl, trivial⟩ ⟨by omega, take_sameA hx hy hc37 hs, S19⟩
      · skip
        have hie : i = a.length := by omega
        subst hie
        refine r_exit rfl ?_
        refine r_seq ?_
        refine r_region ?_
        refine l_x rfl (x_as rfl) ?_
        refine l_nil ?_
        refine r_ret (rs := [.tmp 4]) [_] Try.func24 rfl ⟨rfl, trivial⟩ ?_
        exact ⟨congrArg Value.bool (decide_eq_true ⟨hNM, by rw [List.take_length] at hs; rw [hs, hab, List.take_length]⟩).symm, S1.le⟩

end Go.Proofs

/-
  Contracts of functions of the program: each by symbolic execution of its text.
-/
namespace Go.Proofs
open Go Go.Vk Go.Vk.Flow

theorem z_step {f : Nat → Int} {i : Nat} (h : ∀ v : Nat, v < i → f v = 0) (hi : f i = 0) : ∀ v : Nat, v < i + 1 → f v = 0 := by
  intro v hv
  rcases Nat.lt_or_ge v i with h1 | h1
  · exact h v h1
  · have e : v = i := by omega
    subst e; exact hi

set_option maxHeartbeats 2000000 in
/-- couchant/couchantref06.Check. -/
theorem c_rCheck (N : Int) (va : Value) (arcs : List Arc) (w : World) (hA : Rd EA w va arcs) :
    Cl Try.prog 37 #[.agg #[.int .i64 N, va]] w fun v w' => v = .int .i64 (chk N arcs) ∧ Le w w' := by
  refine fn_of_run (args := [_]) 94 Try.func37 rfl rfl rfl fun cs => ?_
  have S := Own.start (X := nob) w
  refine r_seq ?_
  refine r_region ?_
  refine l_box S rfl rfl ?_
  intro b4 w1 S2 hl3
  refine l_x rfl (x_as rfl) ?_
  refine l_nil ?_
  refine r_seq ?_
  refine r_seq ?_
  refine r_region ?_
  refine l_x rfl (x_fieldAddr rfl Try.runUnderlying24 rfl Try.sizeOf3 (by decide)) ?_
  refine l_x rfl (x_load rfl (ld_blk (S2.blk 0 rfl) Try.isAgg3 rfl)) ?_
  refine l_x rfl (x_gtr rfl rfl) ?_
  refine l_x rfl (x_mv rfl) ?_
  refine l_splitd (d := 9) rfl (fun hg9 => ?_) (fun hg9 => ?_)
  · skip
    refine l_pass rfl ?_
    refine l_pass rfl ?_
    refine l_pass rfl ?_
    refine l_pass rfl ?_
    refine l_x rfl (x_pick_t rfl rfl) ?_
    refine l_nil ?_
    refine r_true rfl ?_
    refine r_seq ?_
    refine r_region ?_
    refine l_x rfl (x_as rfl) ?_
    refine l_nil ?_
    refine r_ret (rs := [.tmp 2]) [_] Try.func37 rfl ⟨rfl, trivial⟩ ?_
    exact ⟨congrArg (Value.int .i64) (by rw [chk, if_pos (by omega)]), S2.le⟩
  · skip
    refine l_x rfl (x_fieldAddr rfl Try.runUnderlying24 rfl Try.sizeOf22 (by decide)) ?_
    refine l_x rfl (x_load rfl (ld_blk (S2.blk 0 rfl) Try.isAgg22 rfl)) ?_
    refine l_x rfl (x_len (hA.le S2.le) rfl Try.runUnderlying22) ?_
    refine l_x rfl (x_gtr rfl rfl) ?_
    refine l_x rfl (x_pick_f rfl rfl) ?_
    refine l_nil ?_
    refine r_ifd rfl (fun hc14 => ?_) (fun hc14 => ?_)
    · skip
      refine r_seq ?_
      refine r_region ?_
      refine l_x rfl (x_as rfl) ?_
      refine l_nil ?_
      refine r_ret (rs := [.tmp 2]) [_] Try.func37 rfl ⟨rfl, trivial⟩ ?_
      exact ⟨congrArg (Value.int .i64) (by rw [chk, if_pos (by omega)]), S2.le⟩
    · skip
      refine r_skip ?_
      refine r_seq ?_
      refine r_seq ?_
      refine r_region ?_
      refine l_x rfl (x_fieldAddr rfl Try.runUnderlying24 rfl Try.sizeOf3 (by decide)) ?_
      refine l_x rfl (x_load rfl (ld_blk (S2.blk 0 rfl) Try.isAgg3 rfl)) ?_
      refine l_x rfl (x_lss rfl rfl) ?_
      refine l_nil ?_
      refine r_ifd rfl (fun hc17 => ?_) (fun hc17 => ?_)
      · skip
        refine r_seq ?_
        refine r_region ?_
        refine l_x rfl (x_as rfl) ?_
        refine l_nil ?_
        refine r_ret (rs := [.tmp 2]) [_] Try.func37 rfl ⟨rfl, trivial⟩ ?_
        exact ⟨congrArg (Value.int .i64) (by rw [chk, if_neg (by omega), if_pos (.inl (by omega))]), S2.le⟩
      · skip
        refine r_skip ?_
        refine r_seq ?_
        refine r_seq ?_
        refine r_region ?_
        refine l_x rfl (x_as rfl) ?_
        refine l_nil ?_
        refine r_block ?_
        refine r_loop (G := Nat) (fun i => arcs.length - i) (fun i => [(1, .pointer (some ⟨b4, 0, none⟩)), (3, .int .i64 i)]) (fun i w' => (i ≤ arcs.length) ∧ (∀ b ∈ arcs.take i, okArc N b = true) ∧ Own nob w w' [blk b4 [.int .i64 N, va] 24]) 0 ⟨rfl, rfl, trivial⟩ ⟨Nat.zero_le _, by simp, (S2.take 1)⟩ ?_
        rintro i ρ w1 ⟨hi, hok, S1⟩ IH
        refine r_seq ?_
        refine r_seq ?_
        refine r_region ?_
        refine l_x rfl (x_mv rfl) ?_
        refine l_x rfl (x_fieldAddr rfl Try.runUnderlying24 rfl Try.sizeOf22 (by decide)) ?_
        refine l_x rfl (x_load rfl (ld_blk (S1.blk 0 rfl) Try.isAgg22 rfl)) ?_
        refine l_x rfl (x_len (hA.le S1.le) rfl Try.runUnderlying22) ?_
        refine l_x rfl (x_lss rfl rfl) ?_
        refine l_nil ?_
        refine r_ifd rfl (fun hc22 => ?_) (fun hc22 => ?_)
        · skip
          obtain ⟨a, ha⟩ : ∃ a, arcs[i]? = some a := ⟨_, List.getElem?_eq_getElem (by omega)⟩
          refine r_skip ?_
          refine r_seq ?_
          refine r_block ?_
          refine r_seq ?_
          refine r_region ?_
          refine l_x rfl (x_fieldAddr rfl Try.runUnderlying24 rfl Try.sizeOf22 (by decide)) ?_
          refine l_x rfl (x_load rfl (ld_blk (S1.blk 0 rfl) Try.isAgg22 rfl)) ?_
          refine l_x rfl (x_mv rfl) ?_
          refine l_index EA rfl (hA.le S1.le) rfl rfl Try.runUnderlying22 Try.sizeOf39 (by omega) (by first | assumption | exact List.getElem?_eq_getElem (by omega)) ?_
          intro b5 o6 hat7 row8
          refine l_x rfl (x_load rfl (ld_row Try.isAgg39 Try.sizeOf39 rfl row8)) ?_
          refine l_alloc S1 rfl Try.zeroValue39 rfl ?_
          intro b12 w9 S10 hl11
          refine l_stores S10 1 rfl rfl rfl rfl (EA.one _) Try.sizeOf39 (by first | exact Nat.le_refl _ | simp) (splice_all rfl) ?_
          intro w13 S14 hk15
          refine l_nil ?_
          refine r_seq ?_
          refine r_region ?_
          refine l_x rfl (x_fieldAddr rfl Try.runUnderlying39 rfl Try.sizeOf3 (by decide)) ?_
          refine l_x rfl (x_load rfl (ld_blk (S14.blk 1 rfl) Try.isAgg3 rfl)) ?_
          refine l_x rfl (x_geq rfl rfl) ?_
          refine l_x rfl (x_mv rfl) ?_
          refine l_splitd (d := 33) rfl (fun hg33 => ?_) (fun hg33 => ?_)
          · skip
            refine l_x rfl (x_fieldAddr rfl Try.runUnderlying39 rfl Try.sizeOf3 (by decide)) ?_
            refine l_x rfl (x_load rfl (ld_blk (S14.blk 1 rfl) Try.isAgg3 rfl)) ?_
            refine l_x rfl (x_fieldAddr rfl Try.runUnderlying24 rfl Try.sizeOf3 (by decide)) ?_
            refine l_x rfl (x_load rfl (ld_blk (S14.blk 0 rfl) Try.isAgg3 rfl)) ?_
            refine l_x rfl (x_lss rfl rfl) ?_
            refine l_x rfl (x_pick_t rfl rfl) ?_
            refine l_x rfl (x_mv rfl) ?_
            refine l_splitd (d := 40) rfl (fun hg40 => ?_) (fun hg40 => ?_)
            · skip
              refine l_x rfl (x_fieldAddr rfl Try.runUnderlying39 rfl Try.sizeOf3 (by decide)) ?_
              refine l_x rfl (x_load rfl (ld_blk (S14.blk 1 rfl) Try.isAgg3 rfl)) ?_
              refine l_x rfl (x_geq rfl rfl) ?_
              refine l_x rfl (x_pick_t rfl rfl) ?_
              refine l_x rfl (x_mv rfl) ?_
              refine l_splitd (d := 45) rfl (fun hg45 => ?_) (fun hg45 => ?_)
              · skip
                refine l_x rfl (x_fieldAddr rfl Try.runUnderlying39 rfl Try.sizeOf3 (by decide)) ?_
                refine l_x rfl (x_load rfl (ld_blk (S14.blk 1 rfl) Try.isAgg3 rfl)) ?_
                refine l_x rfl (x_fieldAddr rfl Try.runUnderlying24 rfl Try.sizeOf3 (by decide)) ?_
                refine l_x rfl (x_load rfl (ld_blk (S14.blk 0 rfl) Try.isAgg3 rfl)) ?_
                refine l_x rfl (x_lss rfl rfl) ?_
                refine l_x rfl (x_pick_t rfl rfl) ?_
                refine l_x rfl (x_as rfl) ?_
                refine l_nil ?_
                refine r_seq ?_
                refine r_region ?_
                refine l_x rfl (x_mv rfl) ?_
                refine l_x rfl (x_notd rfl) ?_
                refine l_x rfl (x_mv rfl) ?_
                refine l_splitd (d := 54) rfl (fun hg54 => ?_) (fun hg54 => ?_)
                · skip
                  refine l_pass rfl ?_
                  refine l_pass rfl ?_
                  refine l_pass rfl ?_
                  refine l_x rfl (x_pick_t rfl rfl) ?_
                  refine l_x rfl (x_mv rfl) ?_
                  refine l_pass rfl ?_
                  refine l_pass rfl ?_
                  refine l_pass rfl ?_
                  refine l_x rfl (x_pick_t rfl rfl) ?_
                  refine l_x rfl (x_mv rfl) ?_
                  refine l_pass rfl ?_
                  refine l_pass rfl ?_
                  refine l_pass rfl ?_
                  refine l_x rfl (x_pick_t rfl rfl) ?_
                  refine l_x rfl (x_mv rfl) ?_
                  refine l_pass rfl ?_
                  refine l_pass rfl ?_
                  refine l_pass rfl ?_
                  refine l_x rfl (x_pick_t rfl rfl) ?_
                  refine l_x rfl (x_mv rfl) ?_
                  refine l_pass rfl ?_
                  refine l_pass rfl ?_
                  refine l_pass rfl ?_
                  refine l_x rfl (x_pick_t rfl rfl) ?_
                  refine l_x rfl (x_mv rfl) ?_
                  refine l_pass rfl ?_
                  refine l_pass rfl ?_
                  refine l_pass rfl ?_
                  refine l_x rfl (x_pick_t rfl rfl) ?_
                  refine l_x rfl (x_mv rfl) ?_
                  refine l_pass rfl ?_
                  refine l_pass rfl ?_
                  refine l_pass rfl ?_
                  refine l_x rfl (x_pick_t rfl rfl) ?_
                  refine l_x rfl (x_mv rfl) ?_
                  refine l_pass rfl ?_
                  refine l_pass rfl ?_
                  refine l_pass rfl ?_
                  refine l_x rfl (x_pick_t rfl rfl) ?_
                  refine l_nil ?_
                  refine r_true rfl ?_
                  refine r_seq ?_
                  refine r_region ?_
                  refine l_x rfl (x_as rfl) ?_
                  refine l_nil ?_
                  refine r_ret (rs := [.tmp 2]) [_] Try.func37 rfl ⟨rfl, trivial⟩ ?_
                  exact ⟨congrArg (Value.int .i64) (chk_one (by omega) (by omega) ha (by simp only [okArc, decide_eq_false_iff_not]; omega)).symm, S14.le⟩
                · skip
                  refine l_x rfl (x_fieldAddr rfl Try.runUnderlying39 rfl Try.sizeOf3 (by decide)) ?_
                  refine l_x rfl (x_load rfl (ld_blk (S14.blk 1 rfl) Try.isAgg3 rfl)) ?_
                  refine l_x rfl (x_lss rfl rfl) ?_
                  refine l_x rfl (x_pick_f rfl rfl) ?_
                  refine l_x rfl (x_mv rfl) ?_
                  refine l_splitd (d := 59) rfl (fun hg59 => ?_) (fun hg59 => ?_)
                  · skip
                    refine l_pass rfl ?_
                    refine l_pass rfl ?_
                    refine l_pass rfl ?_
                    refine l_x rfl (x_pick_t rfl rfl) ?_
                    refine l_x rfl (x_mv rfl) ?_
                    refine l_pass rfl ?_
                    refine l_pass rfl ?_
                    refine l_pass rfl ?_
                    refine l_x rfl (x_pick_t rfl rfl) ?_
                    refine l_x rfl (x_mv rfl) ?_
                    refine l_pass rfl ?_
                    refine l_pass rfl ?_
                    refine l_pass rfl ?_
                    refine l_x rfl (x_pick_t rfl rfl) ?_
                    refine l_x rfl (x_mv rfl) ?_
                    refine l_pass rfl ?_
                    refine l_pass rfl ?_
                    refine l_pass rfl ?_
                    refine l_x rfl (x_pick_t rfl rfl) ?_
                    refine l_x rfl (x_mv rfl) ?_
                    refine l_pass rfl ?_
                    refine l_pass rfl ?_
                    refine l_pass rfl ?_
                    refine l_x rfl (x_pick_t rfl rfl) ?_
                    refine l_x rfl (x_mv rfl) ?_
                    refine l_pass rfl ?_
                    refine l_pass rfl ?_
                    refine l_pass rfl ?_
                    refine l_x rfl (x_pick_t rfl rfl) ?_
                    refine l_x rfl (x_mv rfl) ?_
                    refine l_pass rfl ?_
                    refine l_pass rfl ?_
                    refine l_pass rfl ?_
                    refine l_x rfl (x_pick_t rfl rfl) ?_
                    refine l_nil ?_
                    refine r_true rfl ?_
                    refine r_seq ?_
                    refine r_region ?_
                    refine l_x rfl (x_as rfl) ?_
                    refine l_nil ?_
                    refine r_ret (rs := [.tmp 2]) [_] Try.func37 rfl ⟨rfl, trivial⟩ ?_
                    exact ⟨congrArg (Value.int .i64) (chk_one (by omega) (by omega) ha (by simp only [okArc, decide_eq_false_iff_not]; omega)).symm, S14.le⟩
                  · skip
                    refine l_x rfl (x_fieldAddr rfl Try.runUnderlying39 rfl Try.sizeOf3 (by decide)) ?_
                    refine l_x rfl (x_load rfl (ld_blk (S14.blk 1 rfl) Try.isAgg3 rfl)) ?_
                    refine l_x rfl (x_gtr rfl rfl) ?_
                    refine l_x rfl (x_pick_f rfl rfl) ?_
                    refine l_x rfl (x_mv rfl) ?_
                    refine l_splitd (d := 64) rfl (fun hg64 => ?_) (fun hg64 => ?_)
                    · skip
                      refine l_pass rfl ?_
                      refine l_pass rfl ?_
                      refine l_pass rfl ?_
                      refine l_x rfl (x_pick_t rfl rfl) ?_
                      refine l_x rfl (x_mv rfl) ?_
                      refine l_pass rfl ?_
                      refine l_pass rfl ?_
                      refine l_pass rfl ?_
                      refine l_x rfl (x_pick_t rfl rfl) ?_
                      refine l_x rfl (x_mv rfl) ?_
                      refine l_pass rfl ?_
                      refine l_pass rfl ?_
                      refine l_pass rfl ?_
                      refine l_x rfl (x_pick_t rfl rfl) ?_
                      refine l_x rfl (x_mv rfl) ?_
                      refine l_pass rfl ?_
                      refine l_pass rfl ?_
                      refine l_pass rfl ?_
                      refine l_x rfl (x_pick_t rfl rfl) ?_
                      refine l_x rfl (x_mv rfl) ?_
                      refine l_pass rfl ?_
                      refine l_pass rfl ?_
                      refine l_pass rfl ?_
                      refine l_x rfl (x_pick_t rfl rfl) ?_
                      refine l_x rfl (x_mv rfl) ?_
                      refine l_pass rfl ?_
                      refine l_pass rfl ?_
                      refine l_pass rfl ?_
                      refine l_x rfl (x_pick_t rfl rfl) ?_
                      refine l_nil ?_
                      refine r_true rfl ?_
                      refine r_seq ?_
                      refine r_region ?_
                      refine l_x rfl (x_as rfl) ?_
                      refine l_nil ?_
                      refine r_ret (rs := [.tmp 2]) [_] Try.func37 rfl ⟨rfl, trivial⟩ ?_
                      exact ⟨congrArg (Value.int .i64) (chk_one (by omega) (by omega) ha (by simp only [okArc, decide_eq_false_iff_not]; omega)).symm, S14.le⟩
                    · skip
                      refine l_x rfl (x_fieldAddr rfl Try.runUnderlying39 rfl Try.sizeOf3 (by decide)) ?_
                      refine l_x rfl (x_load rfl (ld_blk (S14.blk 1 rfl) Try.isAgg3 rfl)) ?_
                      refine l_x rfl (x_lss rfl rfl) ?_
                      refine l_x rfl (x_pick_f rfl rfl) ?_
                      refine l_x rfl (x_mv rfl) ?_
                      refine l_splitd (d := 69) rfl (fun hg69 => ?_) (fun hg69 => ?_)
                      · skip
                        refine l_pass rfl ?_
                        refine l_pass rfl ?_
                        refine l_pass rfl ?_
                        refine l_x rfl (x_pick_t rfl rfl) ?_
                        refine l_x rfl (x_mv rfl) ?_
                        refine l_pass rfl ?_
                        refine l_pass rfl ?_
                        refine l_pass rfl ?_
                        refine l_x rfl (x_pick_t rfl rfl) ?_
                        refine l_x rfl (x_mv rfl) ?_
                        refine l_pass rfl ?_
                        refine l_pass rfl ?_
                        refine l_pass rfl ?_
                        refine l_x rfl (x_pick_t rfl rfl) ?_
                        refine l_x rfl (x_mv rfl) ?_
                        refine l_pass rfl ?_
                        refine l_pass rfl ?_
                        refine l_pass rfl ?_
                        refine l_x rfl (x_pick_t rfl rfl) ?_
                        refine l_x rfl (x_mv rfl) ?_
                        refine l_pass rfl ?_
                        refine l_pass rfl ?_
                        refine l_pass rfl ?_
                        refine l_x rfl (x_pick_t rfl rfl) ?_
                        refine l_nil ?_
                        refine r_true rfl ?_
                        refine r_seq ?_
                        refine r_region ?_
                        refine l_x rfl (x_as rfl) ?_
                        refine l_nil ?_
                        refine r_ret (rs := [.tmp 2]) [_] Try.func37 rfl ⟨rfl, trivial⟩ ?_
                        exact ⟨congrArg (Value.int .i64) (chk_one (by omega) (by omega) ha (by simp only [okArc, decide_eq_false_iff_not]; omega)).symm, S14.le⟩
                      · skip
                        refine l_x rfl (x_fieldAddr rfl Try.runUnderlying39 rfl Try.sizeOf3 (by decide)) ?_
                        refine l_x rfl (x_load rfl (ld_blk (S14.blk 1 rfl) Try.isAgg3 rfl)) ?_
                        refine l_x rfl (x_gtr rfl rfl) ?_
                        refine l_x rfl (x_pick_f rfl rfl) ?_
                        refine l_x rfl (x_mv rfl) ?_
                        refine l_splitd (d := 74) rfl (fun hg74 => ?_) (fun hg74 => ?_)
                        · skip
                          refine l_pass rfl ?_
                          refine l_pass rfl ?_
                          refine l_pass rfl ?_
                          refine l_x rfl (x_pick_t rfl rfl) ?_
                          refine l_x rfl (x_mv rfl) ?_
                          refine l_pass rfl ?_
                          refine l_pass rfl ?_
                          refine l_pass rfl ?_
                          refine l_x rfl (x_pick_t rfl rfl) ?_
                          refine l_x rfl (x_mv rfl) ?_
                          refine l_pass rfl ?_
                          refine l_pass rfl ?_
                          refine l_pass rfl ?_
                          refine l_x rfl (x_pick_t rfl rfl) ?_
                          refine l_x rfl (x_mv rfl) ?_
                          refine l_pass rfl ?_
                          refine l_pass rfl ?_
                          refine l_pass rfl ?_
                          refine l_x rfl (x_pick_t rfl rfl) ?_
                          refine l_nil ?_
                          refine r_true rfl ?_
                          refine r_seq ?_
                          refine r_region ?_
                          refine l_x rfl (x_as rfl) ?_
                          refine l_nil ?_
                          refine r_ret (rs := [.tmp 2]) [_] Try.func37 rfl ⟨rfl, trivial⟩ ?_
                          exact ⟨congrArg (Value.int .i64) (chk_one (by omega) (by omega) ha (by simp only [okArc, decide_eq_false_iff_not]; omega)).symm, S14.le⟩
                        · skip
                          refine l_x rfl (x_fieldAddr rfl Try.runUnderlying39 rfl Try.sizeOf3 (by decide)) ?_
                          refine l_x rfl (x_load rfl (ld_blk (S14.blk 1 rfl) Try.isAgg3 rfl)) ?_
                          refine l_x rfl (x_lss rfl rfl) ?_
                          refine l_x rfl (x_pick_f rfl rfl) ?_
                          refine l_x rfl (x_mv rfl) ?_
                          refine l_splitd (d := 79) rfl (fun hg79 => ?_) (fun hg79 => ?_)
                          · skip
                            refine l_pass rfl ?_
                            refine l_pass rfl ?_
                            refine l_pass rfl ?_
                            refine l_x rfl (x_pick_t rfl rfl) ?_
                            refine l_x rfl (x_mv rfl) ?_
                            refine l_pass rfl ?_
                            refine l_pass rfl ?_
                            refine l_pass rfl ?_
                            refine l_x rfl (x_pick_t rfl rfl) ?_
                            refine l_x rfl (x_mv rfl) ?_
                            refine l_pass rfl ?_
                            refine l_pass rfl ?_
                            refine l_pass rfl ?_
                            refine l_x rfl (x_pick_t rfl rfl) ?_
                            refine l_nil ?_
                            refine r_true rfl ?_
                            refine r_seq ?_
                            refine r_region ?_
                            refine l_x rfl (x_as rfl) ?_
                            refine l_nil ?_
                            refine r_ret (rs := [.tmp 2]) [_] Try.func37 rfl ⟨rfl, trivial⟩ ?_
                            exact ⟨congrArg (Value.int .i64) (chk_one (by omega) (by omega) ha (by simp only [okArc, decide_eq_false_iff_not]; omega)).symm, S14.le⟩
                          · skip
                            refine l_x rfl (x_fieldAddr rfl Try.runUnderlying39 rfl Try.sizeOf3 (by decide)) ?_
                            refine l_x rfl (x_load rfl (ld_blk (S14.blk 1 rfl) Try.isAgg3 rfl)) ?_
                            refine l_x rfl (x_gtr rfl rfl) ?_
                            refine l_x rfl (x_pick_f rfl rfl) ?_
                            refine l_x rfl (x_mv rfl) ?_
                            refine l_splitd (d := 84) rfl (fun hg84 => ?_) (fun hg84 => ?_)
                            · skip
                              refine l_pass rfl ?_
                              refine l_pass rfl ?_
                              refine l_pass rfl ?_
                              refine l_x rfl (x_pick_t rfl rfl) ?_
                              refine l_x rfl (x_mv rfl) ?_
                              refine l_pass rfl ?_
                              refine l_pass rfl ?_
                              refine l_pass rfl ?_
                              refine l_x rfl (x_pick_t rfl rfl) ?_
                              refine l_nil ?_
                              refine r_true rfl ?_
                              refine r_seq ?_
                              refine r_region ?_
                              refine l_x rfl (x_as rfl) ?_
                              refine l_nil ?_
                              refine r_ret (rs := [.tmp 2]) [_] Try.func37 rfl ⟨rfl, trivial⟩ ?_
                              exact ⟨congrArg (Value.int .i64) (chk_one (by omega) (by omega) ha (by simp only [okArc, decide_eq_false_iff_not]; omega)).symm, S14.le⟩
                            · skip
                              refine l_x rfl (x_fieldAddr rfl Try.runUnderlying39 rfl Try.sizeOf3 (by decide)) ?_
                              refine l_x rfl (x_load rfl (ld_blk (S14.blk 1 rfl) Try.isAgg3 rfl)) ?_
                              refine l_x rfl (x_lss rfl rfl) ?_
                              refine l_x rfl (x_pick_f rfl rfl) ?_
                              refine l_x rfl (x_mv rfl) ?_
                              refine l_splitd (d := 89) rfl (fun hg89 => ?_) (fun hg89 => ?_)
                              · skip
                                refine l_pass rfl ?_
                                refine l_pass rfl ?_
                                refine l_pass rfl ?_
                                refine l_x rfl (x_pick_t rfl rfl) ?_
                                refine l_nil ?_
                                refine r_true rfl ?_
                                refine r_seq ?_
                                refine r_region ?_
                                refine l_x rfl (x_as rfl) ?_
                                refine l_nil ?_
                                refine r_ret (rs := [.tmp 2]) [_] Try.func37 rfl ⟨rfl, trivial⟩ ?_
                                exact ⟨congrArg (Value.int .i64) (chk_one (by omega) (by omega) ha (by simp only [okArc, decide_eq_false_iff_not]; omega)).symm, S14.le⟩
                              · skip
                                refine l_x rfl (x_fieldAddr rfl Try.runUnderlying39 rfl Try.sizeOf3 (by decide)) ?_
                                refine l_x rfl (x_load rfl (ld_blk (S14.blk 1 rfl) Try.isAgg3 rfl)) ?_
                                refine l_x rfl (x_gtr rfl rfl) ?_
                                refine l_x rfl (x_pick_f rfl rfl) ?_
                                refine l_nil ?_
                                refine r_ifd rfl (fun hc93 => ?_) (fun hc93 => ?_)
                                · skip
                                  refine r_seq ?_
                                  refine r_region ?_
                                  refine l_x rfl (x_as rfl) ?_
                                  refine l_nil ?_
                                  refine r_ret (rs := [.tmp 2]) [_] Try.func37 rfl ⟨rfl, trivial⟩ ?_
                                  exact ⟨congrArg (Value.int .i64) (chk_one (by omega) (by omega) ha (by simp only [okArc, decide_eq_false_iff_not]; omega)).symm, S14.le⟩
                                · skip
                                  refine r_skip ?_
                                  refine r_inBlock ?_
                                  refine r_region ?_
                                  refine l_x rfl (x_mv rfl) ?_
                                  refine l_x rfl (x_add rfl rfl (by omega)) ?_
                                  refine l_x rfl (x_as rfl) ?_
                                  refine l_nil ?_
                                  exact IH (i + 1) _ _ (by omega) ⟨rfl, rfl, trivial⟩ ⟨by omega, ok_step hok ha (okArc_iff.2 (by omega)), (S14.take 1)⟩
              · skip
                refine l_pass rfl ?_
                refine l_pass rfl ?_
                refine l_pass rfl ?_
                refine l_pass rfl ?_
                refine l_pass rfl ?_
                refine l_x rfl (x_pick_f rfl rfl) ?_
                refine l_x rfl (x_as rfl) ?_
                refine l_nil ?_
                refine r_seq ?_
                refine r_region ?_
                refine l_x rfl (x_mv rfl) ?_
                refine l_x rfl (x_not rfl) ?_
                refine l_x rfl (x_mv rfl) ?_
                refine l_pass rfl ?_
                refine l_pass rfl ?_
                refine l_pass rfl ?_
                refine l_x rfl (x_pick_t rfl rfl) ?_
                refine l_x rfl (x_mv rfl) ?_
                refine l_pass rfl ?_
                refine l_pass rfl ?_
                refine l_pass rfl ?_
                refine l_x rfl (x_pick_t rfl rfl) ?_
                refine l_x rfl (x_mv rfl) ?_
                refine l_pass rfl ?_
                refine l_pass rfl ?_
                refine l_pass rfl ?_
                refine l_x rfl (x_pick_t rfl rfl) ?_
                refine l_x rfl (x_mv rfl) ?_
                refine l_pass rfl ?_
                refine l_pass rfl ?_
                refine l_pass rfl ?_
                refine l_x rfl (x_pick_t rfl rfl) ?_
                refine l_x rfl (x_mv rfl) ?_
                refine l_pass rfl ?_
                refine l_pass rfl ?_
                refine l_pass rfl ?_
                refine l_x rfl (x_pick_t rfl rfl) ?_
                refine l_x rfl (x_mv rfl) ?_
                refine l_pass rfl ?_
                refine l_pass rfl ?_
                refine l_pass rfl ?_
                refine l_x rfl (x_pick_t rfl rfl) ?_
                refine l_x rfl (x_mv rfl) ?_
                refine l_pass rfl ?_
                refine l_pass rfl ?_
                refine l_pass rfl ?_
                refine l_x rfl (x_pick_t rfl rfl) ?_
                refine l_x rfl (x_mv rfl) ?_
                refine l_pass rfl ?_
                refine l_pass rfl ?_
                refine l_pass rfl ?_
                refine l_x rfl (x_pick_t rfl rfl) ?_
                refine l_nil ?_
                refine r_true rfl ?_
                refine r_seq ?_
                refine r_region ?_
                refine l_x rfl (x_as rfl) ?_
                refine l_nil ?_
                refine r_ret (rs := [.tmp 2]) [_] Try.func37 rfl ⟨rfl, trivial⟩ ?_
                exact ⟨congrArg (Value.int .i64) (chk_one (by omega) (by omega) ha (by simp only [okArc, decide_eq_false_iff_not]; omega)).symm, S14.le⟩
            · skip
              refine l_pass rfl ?_
              refine l_pass rfl ?_
              refine l_pass rfl ?_
              refine l_x rfl (x_pick_f rfl rfl) ?_
              refine l_x rfl (x_mv rfl) ?_
              refine l_pass rfl ?_
              refine l_pass rfl ?_
              refine l_pass rfl ?_
              refine l_pass rfl ?_
              refine l_pass rfl ?_
              refine l_x rfl (x_pick_f rfl rfl) ?_
              refine l_x rfl (x_as rfl) ?_
              refine l_nil ?_
              refine r_seq ?_
              refine r_region ?_
              refine l_x rfl (x_mv rfl) ?_
              refine l_x rfl (x_not rfl) ?_
              refine l_x rfl (x_mv rfl) ?_
              refine l_pass rfl ?_
              refine l_pass rfl ?_
              refine l_pass rfl ?_
              refine l_x rfl (x_pick_t rfl rfl) ?_
              refine l_x rfl (x_mv rfl) ?_
              refine l_pass rfl ?_
              refine l_pass rfl ?_
              refine l_pass rfl ?_
              refine l_x rfl (x_pick_t rfl rfl) ?_
              refine l_x rfl (x_mv rfl) ?_
              refine l_pass rfl ?_
              refine l_pass rfl ?_
              refine l_pass rfl ?_
              refine l_x rfl (x_pick_t rfl rfl) ?_
              refine l_x rfl (x_mv rfl) ?_
              refine l_pass rfl ?_
              refine l_pass rfl ?_
              refine l_pass rfl ?_
              refine l_x rfl (x_pick_t rfl rfl) ?_
              refine l_x rfl (x_mv rfl) ?_
              refine l_pass rfl ?_
              refine l_pass rfl ?_
              refine l_pass rfl ?_
              refine l_x rfl (x_pick_t rfl rfl) ?_
              refine l_x rfl (x_mv rfl) ?_
              refine l_pass rfl ?_
              refine l_pass rfl ?_
              refine l_pass rfl ?_
              refine l_x rfl (x_pick_t rfl rfl) ?_
              refine l_x rfl (x_mv rfl) ?_
              refine l_pass rfl ?_
              refine l_pass rfl ?_
              refine l_pass rfl ?_
              refine l_x rfl (x_pick_t rfl rfl) ?_
              refine l_x rfl (x_mv rfl) ?_
              refine l_pass rfl ?_
              refine l_pass rfl ?_
              refine l_pass rfl ?_
              refine l_x rfl (x_pick_t rfl rfl) ?_
              refine l_nil ?_
              refine r_true rfl ?_
              refine r_seq ?_
              refine r_region ?_
              refine l_x rfl (x_as rfl) ?_
              refine l_nil ?_
              refine r_ret (rs := [.tmp 2]) [_] Try.func37 rfl ⟨rfl, trivial⟩ ?_
              exact ⟨congrArg (Value.int .i64) (chk_one (by omega) (by omega) ha (by simp only [okArc, decide_eq_false_iff_not]; omega)).symm, S14.le⟩
          · skip
            refine l_pass rfl ?_
            refine l_pass rfl ?_
            refine l_pass rfl ?_
            refine l_pass rfl ?_
            refine l_pass rfl ?_
            refine l_x rfl (x_pick_f rfl rfl) ?_
            refine l_x rfl (x_mv rfl) ?_
            refine l_pass rfl ?_
            refine l_pass rfl ?_
            refine l_pass rfl ?_
            refine l_x rfl (x_pick_f rfl rfl) ?_
            refine l_x rfl (x_mv rfl) ?_
            refine l_pass rfl ?_
            refine l_pass rfl ?_
            refine l_pass rfl ?_
            refine l_pass rfl ?_
            refine l_pass rfl ?_
            refine l_x rfl (x_pick_f rfl rfl) ?_
            refine l_x rfl (x_as rfl) ?_
            refine l_nil ?_
            refine r_seq ?_
            refine r_region ?_
            refine l_x rfl (x_mv rfl) ?_
            refine l_x rfl (x_not rfl) ?_
            refine l_x rfl (x_mv rfl) ?_
            refine l_pass rfl ?_
            refine l_pass rfl ?_
            refine l_pass rfl ?_
            refine l_x rfl (x_pick_t rfl rfl) ?_
            refine l_x rfl (x_mv rfl) ?_
            refine l_pass rfl ?_
            refine l_pass rfl ?_
            refine l_pass rfl ?_
            refine l_x rfl (x_pick_t rfl rfl) ?_
            refine l_x rfl (x_mv rfl) ?_
            refine l_pass rfl ?_
            refine l_pass rfl ?_
            refine l_pass rfl ?_
            refine l_x rfl (x_pick_t rfl rfl) ?_
            refine l_x rfl (x_mv rfl) ?_
            refine l_pass rfl ?_
            refine l_pass rfl ?_
            refine l_pass rfl ?_
            refine l_x rfl (x_pick_t rfl rfl) ?_
            refine l_x rfl (x_mv rfl) ?_
            refine l_pass rfl ?_
            refine l_pass rfl ?_
            refine l_pass rfl ?_
            refine l_x rfl (x_pick_t rfl rfl) ?_
            refine l_x rfl (x_mv rfl) ?_
            refine l_pass rfl ?_
            refine l_pass rfl ?_
            refine l_pass rfl ?_
            refine l_x rfl (x_pick_t rfl rfl) ?_
            refine l_x rfl (x_mv rfl) ?_
            refine l_pass rfl ?_
            refine l_pass rfl ?_
            refine l_pass rfl ?_
            refine l_x rfl (x_pick_t rfl rfl) ?_
            refine l_x rfl (x_mv rfl) ?_
            refine l_pass rfl ?_
            refine l_pass rfl ?_
            refine l_pass rfl ?_
            refine l_x rfl (x_pick_t rfl rfl) ?_
            refine l_nil ?_
            refine r_true rfl ?_
            refine r_seq ?_
            refine r_region ?_
            refine l_x rfl (x_as rfl) ?_
            refine l_nil ?_
            refine r_ret (rs := [.tmp 2]) [_] Try.func37 rfl ⟨rfl, trivial⟩ ?_
            exact ⟨congrArg (Value.int .i64) (chk_one (by omega) (by omega) ha (by simp only [okArc, decide_eq_false_iff_not]; omega)).symm, S14.le⟩
        · skip
          have hie : i = arcs.length := by omega
          subst hie
          rw [List.take_length] at hok
          refine r_exit rfl ?_
          refine r_seq ?_
          refine r_region ?_
          refine l_x rfl (x_as rfl) ?_
          refine l_nil ?_
          refine r_ret (rs := [.tmp 2]) [_] Try.func37 rfl ⟨rfl, trivial⟩ ?_
          exact ⟨congrArg (Value.int .i64) (chk_ok (by omega) (by omega) (by omega) hok).symm, S1.le⟩

/-- couchant/couchantref06.list. -/
theorem c_rlist (vl : Value) (l : List Int) (n a b : Int) (hmx : l.length ≤ 9223372036854775807) (w : World) (hL : Rd EI w vl l) :
    Cl Try.prog 103 #[vl, .int .i64 n, .int .i64 a, .int .i64 b] w fun v w' => v = .bool (row l n a b) ∧ Le w w' := by
  refine fn_of_run (args := [_, _, _, _]) 34 Try.func103 rfl rfl rfl fun cs => ?_
  have S := Own.start (X := nob) w
  refine r_seq ?_
  refine r_region ?_
  refine l_x rfl (x_as rfl) ?_
  refine l_nil ?_
  refine r_seq ?_
  refine r_seq ?_
  refine r_region ?_
  refine l_x rfl (x_mv rfl) ?_
  refine l_x rfl (x_len (hL.le S.le) rfl Try.runUnderlying25) ?_
  refine l_x rfl (x_mv rfl) ?_
  refine l_x rfl (x_neq rfl rfl) ?_
  refine l_nil ?_
  refine r_ifd rfl (fun hc13 => ?_) (fun hc13 => ?_)
  · skip
    refine r_seq ?_
    refine r_region ?_
    refine l_x rfl (x_as rfl) ?_
    refine l_nil ?_
    refine r_ret (rs := [.tmp 8]) [_] Try.func103 rfl ⟨rfl, trivial⟩ ?_
    exact ⟨congrArg Value.bool (by rw [row, decide_eq_false (by omega), Bool.false_and]), S.le⟩
  · skip
    refine r_skip ?_
    refine r_seq ?_
    refine r_seq ?_
    refine r_region ?_
    refine l_x rfl (x_as rfl) ?_
    refine l_nil ?_
    refine r_block ?_
    refine r_loop (G := Nat) (fun i => l.length - i) (fun i => [(0, vl), (2, .int .i64 a), (3, .int .i64 b), (9, .int .i64 i)]) (fun i w' => (i ≤ l.length) ∧ (∀ z ∈ l.take i, a ≤ z ∧ z ≤ b) ∧ Own nob w w' []) 0 ⟨rfl, rfl, rfl, rfl, trivial⟩ ⟨Nat.zero_le _, by simp, S⟩ ?_
    rintro i ρ w1 ⟨hi, hok, S1⟩ IH
    refine r_seq ?_
    refine r_seq ?_
    refine r_region ?_
    refine l_x rfl (x_mv rfl) ?_
    refine l_x rfl (x_mv rfl) ?_
    refine l_x rfl (x_len (hL.le S1.le) rfl Try.runUnderlying25) ?_
    refine l_x rfl (x_lss rfl rfl) ?_
    refine l_nil ?_
    refine r_ifd rfl (fun hc17 => ?_) (fun hc17 => ?_)
    · skip
      obtain ⟨x, hx⟩ : ∃ x, l[i]? = some x := ⟨_, List.getElem?_eq_getElem (by omega)⟩
      refine r_skip ?_
      refine r_seq ?_
      refine r_block ?_
      refine r_seq ?_
      refine r_region ?_
      refine l_x rfl (x_mv rfl) ?_
      refine l_x rfl (x_mv rfl) ?_
      refine l_index EI rfl (hL.le S1.le) rfl rfl Try.runUnderlying25 Try.sizeOf3 (by omega) (by first | assumption | exact List.getElem?_eq_getElem (by omega)) ?_
      intro b1 o2 hat3 row4
      refine l_x rfl (x_load rfl (ld_cell Try.isAgg3 (row4 0 _ rfl))) ?_
      refine l_x rfl (x_mv rfl) ?_
      refine l_x rfl (x_lss rfl rfl) ?_
      refine l_x rfl (x_mv rfl) ?_
      refine l_splitd (d := 26) rfl (fun hg26 => ?_) (fun hg26 => ?_)
      · skip
        refine l_pass rfl ?_
        refine l_pass rfl ?_
        refine l_pass rfl ?_
        refine l_pass rfl ?_
        refine l_pass rfl ?_
        refine l_pass rfl ?_
        refine l_x rfl (x_pick_t rfl rfl) ?_
        refine l_nil ?_
        refine r_true rfl ?_
        refine r_seq ?_
        refine r_region ?_
        refine l_x rfl (x_as rfl) ?_
        refine l_nil ?_
        refine r_ret (rs := [.tmp 8]) [_] Try.func103 rfl ⟨rfl, trivial⟩ ?_
        exact ⟨congrArg Value.bool (row_no hx (by omega)).symm, S1.le⟩
      · skip
        refine l_x rfl (x_mv rfl) ?_
        refine l_x rfl (x_mv rfl) ?_
        refine l_index EI rfl (hL.le S1.le) rfl rfl Try.runUnderlying25 Try.sizeOf3 (by omega) (by first | assumption | exact List.getElem?_eq_getElem (by omega)) ?_
        intro b5 o6 hat7 row8
        refine l_x rfl (x_load rfl (ld_cell Try.isAgg3 (row8 0 _ rfl))) ?_
        refine l_x rfl (x_mv rfl) ?_
        refine l_x rfl (x_gtr rfl rfl) ?_
        refine l_x rfl (x_pick_f rfl rfl) ?_
        refine l_nil ?_
        refine r_ifd rfl (fun hc33 => ?_) (fun hc33 => ?_)
        · skip
          refine r_seq ?_
          refine r_region ?_
          refine l_x rfl (x_as rfl) ?_
          refine l_nil ?_
          refine r_ret (rs := [.tmp 8]) [_] Try.func103 rfl ⟨rfl, trivial⟩ ?_
          exact ⟨congrArg Value.bool (row_no hx (by omega)).symm, S1.le⟩
        · skip
          refine r_skip ?_
          refine r_inBlock ?_
          refine r_region ?_
          refine l_x rfl (x_mv rfl) ?_
          refine l_x rfl (x_add rfl rfl (by omega)) ?_
          refine l_x rfl (x_as rfl) ?_
          refine l_nil ?_
          exact IH (i + 1) _ _ (by omega) ⟨rfl, rfl, rfl, rfl, trivial⟩ ⟨by omega, row_step hok hx (by omega), S1⟩
    · skip
      have hie : i = l.length := by omega
      subst hie
      rw [List.take_length] at hok
      refine r_exit rfl ?_
      refine r_seq ?_
      refine r_region ?_
      refine l_x rfl (x_as rfl) ?_
      refine l_nil ?_
      refine r_ret (rs := [.tmp 8]) [_] Try.func103 rfl ⟨rfl, trivial⟩ ?_
      exact ⟨congrArg Value.bool (row_iff.2 ⟨by omega, hok⟩).symm, S1.le⟩

/-- couchant/couchantref06.Amounts. -/
theorem c_rAmounts (N : Int) (va : Value) (arcs : List Arc) (vl : Value) (l : List Int) (hmx : l.length ≤ 9223372036854775807) (w : World) (hA : Rd EA w va arcs) (hL : Rd EI w vl l) :
    Cl Try.prog 85 #[.agg #[.int .i64 N, va], vl] w fun v w' => v = .bool (row l arcs.length (0) 1000000) ∧ Le w w' := by
  refine fn_of_run (args := [_, _]) 10 Try.func85 rfl rfl rfl fun cs => ?_
  have S := Own.start (X := nob) w
  refine r_seq ?_
  refine r_region ?_
  refine l_box S rfl rfl ?_
  intro b4 w1 S2 hl3
  refine l_x rfl (x_as rfl) ?_
  refine l_nil ?_
  refine r_seq ?_
  refine r_region ?_
  refine l_x rfl (x_mv rfl) ?_
  refine l_x rfl (x_fieldAddr rfl Try.runUnderlying24 rfl Try.sizeOf22 (by decide)) ?_
  refine l_x rfl (x_load rfl (ld_blk (S2.blk 0 rfl) Try.isAgg22 rfl)) ?_
  refine l_x rfl (x_len (hA.le S2.le) rfl Try.runUnderlying22) ?_
  refine l_call [] [] [_, _, _, _] rfl rfl Try.call103 rfl (c_rlist _ _ _ _ _ (by omega) _ (hL.le S2.le)) ?_
  rintro _ w5 ⟨rfl, hl7⟩
  have S6 := S2.step hl7
  refine l_x rfl (x_as rfl) ?_
  refine l_nil ?_
  refine r_ret (rs := [.tmp 4]) [_] Try.func85 rfl ⟨rfl, trivial⟩ ?_
  exact ⟨rfl, S6.le⟩

/-- couchant/couchantref06.Weights. -/
theorem c_rWeights (N : Int) (va : Value) (arcs : List Arc) (vl : Value) (l : List Int) (hmx : l.length ≤ 9223372036854775807) (w : World) (hA : Rd EA w va arcs) (hL : Rd EI w vl l) :
    Cl Try.prog 47 #[.agg #[.int .i64 N, va], vl] w fun v w' => v = .bool (row l arcs.length (-1000) 1000) ∧ Le w w' := by
  refine fn_of_run (args := [_, _]) 10 Try.func47 rfl rfl rfl fun cs => ?_
  have S := Own.start (X := nob) w
  refine r_seq ?_
  refine r_region ?_
  refine l_box S rfl rfl ?_
  intro b4 w1 S2 hl3
  refine l_x rfl (x_as rfl) ?_
  refine l_nil ?_
  refine r_seq ?_
  refine r_region ?_
  refine l_x rfl (x_mv rfl) ?_
  refine l_x rfl (x_fieldAddr rfl Try.runUnderlying24 rfl Try.sizeOf22 (by decide)) ?_
  refine l_x rfl (x_load rfl (ld_blk (S2.blk 0 rfl) Try.isAgg22 rfl)) ?_
  refine l_x rfl (x_len (hA.le S2.le) rfl Try.runUnderlying22) ?_
  refine l_call [] [] [_, _, _, _] rfl rfl Try.call103 rfl (c_rlist _ _ _ _ _ (by omega) _ (hL.le S2.le)) ?_
  rintro _ w5 ⟨rfl, hl7⟩
  have S6 := S2.step hl7
  refine l_x rfl (x_as rfl) ?_
  refine l_nil ?_
  refine r_ret (rs := [.tmp 4]) [_] Try.func47 rfl ⟨rfl, trivial⟩ ?_
  exact ⟨rfl, S6.le⟩

/-- couchant/couchantref06.Potentials. -/
theorem c_rPotentials (N : Int) (va : Value) (vl : Value) (l : List Int) (hmx : l.length ≤ 9223372036854775807) (w : World) (hL : Rd EI w vl l) :
    Cl Try.prog 92 #[.agg #[.int .i64 N, va], vl] w fun v w' => v = .bool (row l N (-10000000) 10000000) ∧ Le w w' := by
  refine fn_of_run (args := [_, _]) 9 Try.func92 rfl rfl rfl fun cs => ?_
  have S := Own.start (X := nob) w
  refine r_seq ?_
  refine r_region ?_
  refine l_box S rfl rfl ?_
  intro b4 w1 S2 hl3
  refine l_x rfl (x_as rfl) ?_
  refine l_nil ?_
  refine r_seq ?_
  refine r_region ?_
  refine l_x rfl (x_mv rfl) ?_
  refine l_x rfl (x_fieldAddr rfl Try.runUnderlying24 rfl Try.sizeOf3 (by decide)) ?_
  refine l_x rfl (x_load rfl (ld_blk (S2.blk 0 rfl) Try.isAgg3 rfl)) ?_
  refine l_call [] [] [_, _, _, _] rfl rfl Try.call103 rfl (c_rlist _ _ _ _ _ (by omega) _ (hL.le S2.le)) ?_
  rintro _ w5 ⟨rfl, hl7⟩
  have S6 := S2.step hl7
  refine l_x rfl (x_as rfl) ?_
  refine l_nil ?_
  refine r_ret (rs := [.tmp 4]) [_] Try.func92 rfl ⟨rfl, trivial⟩ ?_
  exact ⟨rfl, S6.le⟩

/-- couchant/couchantref06.asked. -/
theorem c_rasked (N : Int) (va : Value) (arcs : List Arc) (p : Bool) (w : World) (hA : Rd EA w va arcs) :
    Cl Try.prog 84 #[.agg #[.int .i64 N, va], .bool p] w fun v w' => v = .int .i64 (askd N arcs p) ∧ Le w w' := by
  refine fn_of_run (args := [_, _]) 15 Try.func84 rfl rfl rfl fun cs => ?_
  have S := Own.start (X := nob) w
  refine r_seq ?_
  refine r_region ?_
  refine l_box S rfl rfl ?_
  intro b4 w1 S2 hl3
  refine l_x rfl (x_as rfl) ?_
  refine l_nil ?_
  refine r_seq ?_
  refine r_region ?_
  refine l_x rfl (x_load rfl (ld_blks (S2.blk 0 rfl) Try.isAgg24 Try.sizeOf24 rfl rfl)) ?_
  refine l_call [] [] [_] rfl rfl Try.call37 rfl (c_rCheck _ _ _ _ (hA.le S2.le)) ?_
  rintro _ w5 ⟨rfl, hl7⟩
  have S6 := S2.step hl7
  refine l_x rfl (x_as rfl) ?_
  refine l_nil ?_
  refine r_seq ?_
  refine r_seq ?_
  refine r_region ?_
  refine l_x rfl (x_mv rfl) ?_
  refine l_x rfl (x_eql rfl rfl) ?_
  refine l_x rfl (x_mv rfl) ?_
  refine l_splitd (d := 10) rfl (fun hg10 => ?_) (fun hg10 => ?_)
  · skip
    refine l_x rfl (x_mv rfl) ?_
    refine l_x rfl (x_not rfl) ?_
    refine l_x rfl (x_pick_t rfl rfl) ?_
    refine l_nil ?_
    refine r_if rfl (fun hc13 => ?_) (fun hc13 => ?_)
    · skip
      refine r_seq ?_
      refine r_region ?_
      refine l_x rfl (x_as rfl) ?_
      refine l_nil ?_
      refine r_ret (rs := [.tmp 4]) [_] Try.func84 rfl ⟨rfl, trivial⟩ ?_
      exact ⟨congrArg (Value.int .i64) (by first | (rw [askd, if_pos (by omega)]; done) | (rw [askd, if_neg (by omega)]; cases p <;> simp_all <;> omega) | (cases p <;> simp_all [askd] <;> omega)), S6.le⟩
    · skip
      refine r_skip ?_
      refine r_seq ?_
      refine r_region ?_
      refine l_x rfl (x_mv rfl) ?_
      refine l_x rfl (x_as rfl) ?_
      refine l_nil ?_
      refine r_ret (rs := [.tmp 4]) [_] Try.func84 rfl ⟨rfl, trivial⟩ ?_
      exact ⟨congrArg (Value.int .i64) (by first | (rw [askd, if_pos (by omega)]; done) | (rw [askd, if_neg (by omega)]; cases p <;> simp_all <;> omega) | (cases p <;> simp_all [askd] <;> omega)), S6.le⟩
  · skip
    refine l_pass rfl ?_
    refine l_pass rfl ?_
    refine l_x rfl (x_pick_f rfl rfl) ?_
    refine l_nil ?_
    refine r_false rfl ?_
    refine r_skip ?_
    refine r_seq ?_
    refine r_region ?_
    refine l_x rfl (x_mv rfl) ?_
    refine l_x rfl (x_as rfl) ?_
    refine l_nil ?_
    refine r_ret (rs := [.tmp 4]) [_] Try.func84 rfl ⟨rfl, trivial⟩ ?_
    exact ⟨congrArg (Value.int .i64) (by first | (rw [askd, if_pos (by omega)]; done) | (rw [askd, if_neg (by omega)]; cases p <;> simp_all <;> omega) | (cases p <;> simp_all [askd] <;> omega)), S6.le⟩

set_option maxHeartbeats 2000000 in
/-- couchant/couchantref06.kept. -/
theorem c_rkept (N : Int) (va : Value) (arcs : List Arc) (vx : Value) (x : List Int) (hV : Valid N arcs) (hx : Amts arcs x) (w : World) (hA : Rd EA w va arcs) (hX : Rd EI w vx x) :
    Cl Try.prog 86 #[.agg #[.int .i64 N, va], vx] w fun v w' => v = .bool (Flow.kept 1000 arcs x) ∧ Le w w' := by
  have hNx := hV.max
  have hN1 := hV.pos
  have hLx := hV.len
  have hxl := hx.len
  refine fn_of_run (args := [_, _]) 79 Try.func86 rfl rfl rfl fun cs => ?_
  have S := Own.start (X := nob) w
  refine r_seq ?_
  refine r_region ?_
  refine l_box S rfl rfl ?_
  intro b4 w1 S2 hl3
  refine l_x rfl (x_as rfl) ?_
  refine l_nil ?_
  refine r_seq ?_
  refine r_region ?_
  refine l_x rfl (x_fieldAddr rfl Try.runUnderlying24 rfl Try.sizeOf3 (by decide)) ?_
  refine l_x rfl (x_load rfl (ld_blk (S2.blk 0 rfl) Try.isAgg3 rfl)) ?_
  refine l_make EI 0 S2 rfl Try.runUnderlying25 Try.sizeOf3 Try.typeInfo3 Try.zeroValue3 rfl rfl (congrArg (Value.int .i64) (Int.toNat_of_nonneg (by omega)).symm) (congrArg (Value.int .i64) (Int.toNat_of_nonneg (by omega)).symm) (Nat.le_refl _) (by unfold maxLen; omega) (by show _ * 8 ≤ _; omega) ?_
  intro v8 w5 hv9 S6 hl7
  refine l_x rfl (x_as rfl) ?_
  refine l_nil ?_
  refine r_seq ?_
  refine r_seq ?_
  refine r_region ?_
  refine l_x rfl (x_as rfl) ?_
  refine l_nil ?_
  refine r_block ?_
  refine r_loop (G := Nat) (fun i => arcs.length - i) (fun i => [(1, vx), (2, .pointer (some ⟨b4, 0, none⟩)), (5, v8), (6, .int .i64 i)]) (fun i w' => (i ≤ arcs.length) ∧ (within (arcs.take i) (x.take i) = true) ∧ Own nob w w' [blk b4 [.int .i64 N, va] 24, vec EI v8 (tabL N.toNat (ex (arcs.take i) (x.take i)))]) 0 ⟨rfl, rfl, rfl, rfl, trivial⟩ ⟨Nat.zero_le _, by simp [within], (by rw [ex_zero, tabL_zero]; exact S6)⟩ ?_
  rintro i ρ w1a ⟨hi, hw, S1a⟩ IHa
  refine r_seq ?_
  refine r_seq ?_
  refine r_region ?_
  refine l_x rfl (x_mv rfl) ?_
  refine l_x rfl (x_fieldAddr rfl Try.runUnderlying24 rfl Try.sizeOf22 (by decide)) ?_
  refine l_x rfl (x_load rfl (ld_blk (S1a.blk 0 rfl) Try.isAgg22 rfl)) ?_
  refine l_x rfl (x_len (hA.le S1a.le) rfl Try.runUnderlying22) ?_
  refine l_x rfl (x_lss rfl rfl) ?_
  refine l_nil ?_
  refine r_ifd rfl (fun hc16 => ?_) (fun hc16 => ?_)
  · skip
    obtain ⟨a, ha⟩ : ∃ a, arcs[i]? = some a := ⟨_, List.getElem?_eq_getElem (by omega)⟩
    obtain ⟨y, hy⟩ : ∃ y, x[i]? = some y := ⟨_, List.getElem?_eq_getElem (by have := hx.len; omega)⟩
    have hok := hV.at ha
    have hyb := hx.at hy
    refine r_skip ?_
    refine r_seq ?_
    refine r_block ?_
    refine r_seq ?_
    refine r_region ?_
    refine l_x rfl (x_fieldAddr rfl Try.runUnderlying24 rfl Try.sizeOf22 (by decide)) ?_
    refine l_x rfl (x_load rfl (ld_blk (S1a.blk 0 rfl) Try.isAgg22 rfl)) ?_
    refine l_x rfl (x_mv rfl) ?_
    refine l_index EA rfl (hA.le S1a.le) rfl rfl Try.runUnderlying22 Try.sizeOf39 (by omega) ha ?_
    intro b10 o11 hat12 row13
    refine l_x rfl (x_load rfl (ld_row Try.isAgg39 Try.sizeOf39 rfl row13)) ?_
    refine l_alloc S1a rfl Try.zeroValue39 rfl ?_
    intro b17 w14 S15 hl16
    refine l_stores S15 2 rfl rfl rfl rfl (EA.one _) Try.sizeOf39 (by first | exact Nat.le_refl _ | simp) (splice_all rfl) ?_
    intro w18 S19 hk20
    refine l_nil ?_
    refine r_seq ?_
    refine r_seq ?_
    refine r_drawR 16 Try.mixed (by kernel_rfl) ?_
    refine w_x rfl (fun w1 h1 => x_mv rfl) ?_
    refine w_x rfl (fun w1 h1 => x_mv rfl) ?_
    refine w_index EI rfl (hX.le S19.le) rfl rfl Try.runUnderlying25 Try.sizeOf3 (by omega) hy ?_
    intro b21 o22 hat23 row24
    refine w_x rfl (fun w1 h1 => x_load rfl (ld_cell Try.isAgg3 ((row24.le h1) 0 _ rfl))) ?_
    refine w_x rfl (fun w1 h1 => x_fieldAddr rfl Try.runUnderlying39 rfl Try.sizeOf3 (by decide)) ?_
    refine w_x rfl (fun w1 h1 => x_load rfl (ld_blk ((S19.step h1).blk 2 rfl) Try.isAgg3 rfl)) ?_
    refine w_x rfl (fun w1 h1 => x_lss rfl rfl) ?_
    refine w_x rfl (fun w1 h1 => x_mv rfl) ?_
    refine w_splitd (d := 31) rfl (fun hg31 => ?_) (fun hg31 => ?_)
    · skip
      refine w_pass rfl ?_
      refine w_pass rfl ?_
      refine w_pass rfl ?_
      refine w_pass rfl ?_
      refine w_pass rfl ?_
      refine w_pass rfl ?_
      refine w_pass rfl ?_
      refine w_x rfl (fun w1 h1 => x_pick_t rfl rfl) ?_
      refine w_nil ?_
      intro w25 hl26
      have S27 := S19.step hl26
      refine l_nil ?_
      refine r_true rfl ?_
      refine r_seq ?_
      refine r_region ?_
      refine l_x rfl (x_as rfl) ?_
      refine l_nil ?_
      refine r_ret (rs := [.tmp 4]) [_] Try.func86 rfl ⟨rfl, trivial⟩ ?_
      exact ⟨congrArg Value.bool (by rw [Flow.kept, within_ge (i := i + 1) (by rw [within_take ha hy, hw, decide_eq_false (by omega)]; rfl)]; rfl), S27.le⟩
    · skip
      refine w_x rfl (fun w1 h1 => x_mv rfl) ?_
      refine w_x rfl (fun w1 h1 => x_mv rfl) ?_
      refine w_index EI rfl (hX.le S19.le) rfl rfl Try.runUnderlying25 Try.sizeOf3 (by omega) hy ?_
      intro b28 o29 hat30 row31
      refine w_x rfl (fun w1 h1 => x_load rfl (ld_cell Try.isAgg3 ((row31.le h1) 0 _ rfl))) ?_
      refine w_x rfl (fun w1 h1 => x_fieldAddr rfl Try.runUnderlying39 rfl Try.sizeOf3 (by decide)) ?_
      refine w_x rfl (fun w1 h1 => x_load rfl (ld_blk ((S19.step h1).blk 2 rfl) Try.isAgg3 rfl)) ?_
      refine w_x rfl (fun w1 h1 => x_gtr rfl rfl) ?_
      refine w_x rfl (fun w1 h1 => x_pick_f rfl rfl) ?_
      refine w_nil ?_
      intro w32 hl33
      have S34 := S19.step hl33
      refine l_nil ?_
      refine r_ifd rfl (fun hc39 => ?_) (fun hc39 => ?_)
      · skip
        refine r_seq ?_
        refine r_region ?_
        refine l_x rfl (x_as rfl) ?_
        refine l_nil ?_
        refine r_ret (rs := [.tmp 4]) [_] Try.func86 rfl ⟨rfl, trivial⟩ ?_
        exact ⟨congrArg Value.bool (by rw [Flow.kept, within_ge (i := i + 1) (by rw [within_take ha hy, hw, decide_eq_false (by omega)]; rfl)]; rfl), S34.le⟩
      · skip
        have hw' : within (arcs.take (i + 1)) (x.take (i + 1)) = true := by rw [within_take ha hy, hw, decide_eq_true (by omega)]; rfl
        refine r_skip ?_
        refine r_seq ?_
        have hb1 := ex_bd_take hV hx i a.src.toNat
        refine r_drawR 14 Try.mixed (by kernel_rfl) ?_
        refine w_x rfl (fun w1 h1 => x_mv rfl) ?_
        refine w_x rfl (fun w1 h1 => x_fieldAddr rfl Try.runUnderlying39 rfl Try.sizeOf3 (by decide)) ?_
        refine w_x rfl (fun w1 h1 => x_load rfl (ld_blk ((S34.step h1).blk 2 rfl) Try.isAgg3 rfl)) ?_
        refine w_x rfl (fun w1 h1 => x_mv rfl) ?_
        refine w_x rfl (fun w1 h1 => x_fieldAddr rfl Try.runUnderlying39 rfl Try.sizeOf3 (by decide)) ?_
        refine w_x rfl (fun w1 h1 => x_load rfl (ld_blk ((S34.step h1).blk 2 rfl) Try.isAgg3 rfl)) ?_
        refine w_index EI rfl (vec_rd (S34.at 1 rfl)) rfl rfl Try.runUnderlying25 Try.sizeOf3 (by omega) (tabL_get (by omega)) ?_
        intro b35 o36 hat37 row38
        refine w_x rfl (fun w1 h1 => x_load rfl (ld_cell Try.isAgg3 ((row38.le h1) 0 _ rfl))) ?_
        refine w_x rfl (fun w1 h1 => x_mv rfl) ?_
        refine w_x rfl (fun w1 h1 => x_mv rfl) ?_
        refine w_index EI rfl (hX.le S34.le) rfl rfl Try.runUnderlying25 Try.sizeOf3 (by omega) hy ?_
        intro b39 o40 hat41 row42
        refine w_x rfl (fun w1 h1 => x_load rfl (ld_cell Try.isAgg3 ((row42.le h1) 0 _ rfl))) ?_
        refine w_x rfl (fun w1 h1 => x_sub rfl rfl (by omega)) ?_
        refine w_index EI rfl (vec_rd (S34.at 1 rfl)) rfl rfl Try.runUnderlying25 Try.sizeOf3 (by omega) (tabL_get (by omega)) ?_
        intro b43 o44 hat45 row46
        refine w_nil ?_
        intro w47 hl48
        have S49 := S34.step hl48
        refine l_storevi (f := 0) S49 1 rfl rfl hat45 rfl rfl Try.sizeOf3 (tabL_get (by omega)) (by decide) rfl ?_
        intro w50 S51 hk52
        refine l_nil ?_
        have hb2 := ex_bd_take hV hx i a.dst.toNat
        have hb3 : -5000000000 ≤ upf (ex (arcs.take i) (x.take i)) a.src.toNat (ex (arcs.take i) (x.take i) a.src.toNat - y) a.dst.toNat ∧ upf (ex (arcs.take i) (x.take i)) a.src.toNat (ex (arcs.take i) (x.take i) a.src.toNat - y) a.dst.toNat ≤ 5000000000 := by
          unfold upf; split <;> omega
        refine r_drawR 14 Try.mixed (by kernel_rfl) ?_
        refine w_x rfl (fun w1 h1 => x_mv rfl) ?_
        refine w_x rfl (fun w1 h1 => x_fieldAddr rfl Try.runUnderlying39 rfl Try.sizeOf3 (by decide)) ?_
        refine w_x rfl (fun w1 h1 => x_load rfl (ld_blk ((S51.step h1).blk 2 rfl) Try.isAgg3 rfl)) ?_
        refine w_x rfl (fun w1 h1 => x_mv rfl) ?_
        refine w_x rfl (fun w1 h1 => x_fieldAddr rfl Try.runUnderlying39 rfl Try.sizeOf3 (by decide)) ?_
        refine w_x rfl (fun w1 h1 => x_load rfl (ld_blk ((S51.step h1).blk 2 rfl) Try.isAgg3 rfl)) ?_
        refine w_index EI rfl (vec_rd (S51.at 1 rfl)) rfl rfl Try.runUnderlying25 Try.sizeOf3 (by omega) (by rw [tabL_set]; exact tabL_get (by omega)) ?_
        intro b53 o54 hat55 row56
        refine w_x rfl (fun w1 h1 => x_load rfl (ld_cell Try.isAgg3 ((row56.le h1) 0 _ rfl))) ?_
        refine w_x rfl (fun w1 h1 => x_mv rfl) ?_
        refine w_x rfl (fun w1 h1 => x_mv rfl) ?_
        refine w_index EI rfl (hX.le S51.le) rfl rfl Try.runUnderlying25 Try.sizeOf3 (by omega) hy ?_
        intro b57 o58 hat59 row60
        refine w_x rfl (fun w1 h1 => x_load rfl (ld_cell Try.isAgg3 ((row60.le h1) 0 _ rfl))) ?_
        refine w_x rfl (fun w1 h1 => x_add rfl rfl (by omega)) ?_
        refine w_index EI rfl (vec_rd (S51.at 1 rfl)) rfl rfl Try.runUnderlying25 Try.sizeOf3 (by omega) (by rw [tabL_set]; exact tabL_get (by omega)) ?_
        intro b61 o62 hat63 row64
        refine w_nil ?_
        intro w65 hl66
        have S67 := S51.step hl66
        refine l_storevi (f := 0) S67 1 rfl rfl hat63 rfl rfl Try.sizeOf3 (by rw [tabL_set]; exact tabL_get (by omega)) (by decide) rfl ?_
        intro w68 S69 hk70
        refine l_nil ?_
        refine r_inBlock ?_
        refine r_region ?_
        refine l_x rfl (x_mv rfl) ?_
        refine l_x rfl (x_add rfl rfl (by omega)) ?_
        refine l_x rfl (x_as rfl) ?_
        refine l_nil ?_
        exact IHa (i + 1) _ _ (by omega) ⟨rfl, rfl, rfl, rfl, trivial⟩ ⟨by omega, hw', (by rw [← ex_step2 ha hy (by omega) (by omega) rfl]; have hS := S69.take 2; rw [tabL_set, tabL_set] at hS; exact hS)⟩
  · skip
    have hie : i = arcs.length := by omega
    subst hie
    rw [List.take_length, ← hx.len, List.take_length] at *
    refine r_exit rfl ?_
    refine r_seq ?_
    refine r_seq ?_
    refine r_region ?_
    refine l_x rfl (x_as rfl) ?_
    refine l_nil ?_
    refine r_block ?_
    refine r_loop (G := Nat) (fun i => N.toNat - i) (fun i => [(2, .pointer (some ⟨b4, 0, none⟩)), (5, v8), (8, .int .i64 i)]) (fun i w' => (i ≤ N.toNat) ∧ (∀ v : Nat, v < i → ex arcs x v = 0) ∧ Own nob w w' [blk b4 [.int .i64 N, va] 24, vec EI v8 (tabL N.toNat (ex arcs x))]) 0 ⟨rfl, rfl, rfl, trivial⟩ ⟨Nat.zero_le _, fun v h => absurd h (Nat.not_lt_zero v), (S1a.take 2)⟩ ?_
    rintro i ρ w1b ⟨hi, hz, S1b⟩ IHb
    refine r_seq ?_
    refine r_seq ?_
    refine r_region ?_
    refine l_x rfl (x_mv rfl) ?_
    refine l_x rfl (x_fieldAddr rfl Try.runUnderlying24 rfl Try.sizeOf3 (by decide)) ?_
    refine l_x rfl (x_load rfl (ld_blk (S1b.blk 0 rfl) Try.isAgg3 rfl)) ?_
    refine l_x rfl (x_lss rfl rfl) ?_
    refine l_nil ?_
    refine r_ifd rfl (fun hc71 => ?_) (fun hc71 => ?_)
    · skip
      refine r_skip ?_
      refine r_seq ?_
      refine r_block ?_
      refine r_seq ?_
      refine r_region ?_
      refine l_x rfl (x_mv rfl) ?_
      refine l_x rfl (x_mv rfl) ?_
      refine l_index EI rfl (vec_rd (S1b.at 1 rfl)) rfl rfl Try.runUnderlying25 Try.sizeOf3 (by omega) (tabL_get (by omega)) ?_
      intro b71 o72 hat73 row74
      refine l_x rfl (x_load rfl (ld_cell Try.isAgg3 (row74 0 _ rfl))) ?_
      refine l_x rfl (x_neq rfl rfl) ?_
      refine l_nil ?_
      refine r_ifd rfl (fun hc78 => ?_) (fun hc78 => ?_)
      · skip
        refine r_seq ?_
        refine r_region ?_
        refine l_x rfl (x_as rfl) ?_
        refine l_nil ?_
        refine r_ret (rs := [.tmp 4]) [_] Try.func86 rfl ⟨rfl, trivial⟩ ?_
        exact ⟨congrArg Value.bool (kept_bad hV (v := i) (by omega) hc78).symm, S1b.le⟩
      · skip
        refine r_skip ?_
        refine r_inBlock ?_
        refine r_region ?_
        refine l_x rfl (x_mv rfl) ?_
        refine l_x rfl (x_add rfl rfl (by omega)) ?_
        refine l_x rfl (x_as rfl) ?_
        refine l_nil ?_
        exact IHb (i + 1) _ _ (by omega) ⟨rfl, rfl, rfl, trivial⟩ ⟨by omega, z_step hz (Decidable.not_not.1 hc78), (S1b.take 2)⟩
    · skip
      have hie : i = N.toNat := by omega
      subst hie
      refine r_exit rfl ?_
      refine r_seq ?_
      refine r_region ?_
      refine l_x rfl (x_as rfl) ?_
      refine l_nil ?_
      refine r_ret (rs := [.tmp 4]) [_] Try.func86 rfl ⟨rfl, trivial⟩ ?_
      exact ⟨congrArg Value.bool (kept_tab hV hw hz).symm, S1b.le⟩

/-- couchant/couchantref06.Kept. -/
theorem c_rKept (N : Int) (va : Value) (arcs : List Arc) (vx : Value) (x : List Int) (hm : x.length ≤ 9223372036854775807) (w : World) (hA : Rd EA w va arcs) (hX : Rd EI w vx x) :
    Cl Try.prog 31 #[.agg #[.int .i64 N, va], vx] w fun v w' => ∃ k e, v = .tuple #[.bool k, .int .i64 e] ∧ Le w w' ∧ KeptR N arcs x k e := by
  refine fn_of_run (args := [_, _]) 20 Try.func31 rfl rfl rfl fun cs => ?_
  have S := Own.start (X := nob) w
  refine r_seq ?_
  refine r_region ?_
  refine l_box S rfl rfl ?_
  intro b4 w1 S2 hl3
  refine l_x rfl (x_as rfl) ?_
  refine l_x rfl (x_as rfl) ?_
  refine l_nil ?_
  refine r_seq ?_
  refine r_drawR 6 Try.mixed (by kernel_rfl) ?_
  refine w_x rfl (fun w1 h1 => x_load rfl (ld_blks ((S2.step h1).blk 0 rfl) Try.isAgg24 Try.sizeOf24 rfl rfl)) ?_
  refine w_x rfl (fun w1 h1 => x_load rfl (ld_blks ((S2.step h1).blk 0 rfl) Try.isAgg24 Try.sizeOf24 rfl rfl)) ?_
  refine w_x rfl (fun w1 h1 => x_mv rfl) ?_
  refine wd_call [] [] [_, _] rfl rfl Try.call85 rfl (fun w1 h1 => c_rAmounts _ _ _ _ _ (by omega) _ (hA.le (S2.step h1).le) (hX.le (S2.step h1).le)) ?_
  refine wd_call [] [] [_, _] rfl rfl Try.call84 rfl (fun w1 h1 => c_rasked _ _ _ _ _ (hA.le (S2.step h1).le)) ?_
  refine w_x rfl (fun w1 h1 => x_as rfl) ?_
  refine w_nil ?_
  intro w5 hl6
  have S7 := S2.step hl6
  refine l_nil ?_
  refine r_seq ?_
  refine r_region ?_
  refine l_x rfl (x_mv rfl) ?_
  refine l_x rfl (x_eql rfl rfl) ?_
  refine l_x rfl (x_mv rfl) ?_
  refine l_splitd (d := 14) rfl (fun hg14 => ?_) (fun hg14 => ?_)
  · skip
    obtain ⟨hV, hq⟩ := askd_zero.1 hg14
    have hx := row_amts.1 hq
    refine l_x rfl (x_load rfl (ld_blks (S7.blk 0 rfl) Try.isAgg24 Try.sizeOf24 rfl rfl)) ?_
    refine l_x rfl (x_mv rfl) ?_
    refine l_call [] [] [_, _] rfl rfl Try.call86 rfl (c_rkept _ _ _ _ _ hV hx _ (hA.le S7.le) (hX.le S7.le)) ?_
    rintro _ w8 ⟨rfl, hl10⟩
    have S9 := S7.step hl10
    refine l_x rfl (x_pick_t rfl rfl) ?_
    refine l_x rfl (x_mv rfl) ?_
    refine l_x rfl (x_as rfl) ?_
    refine l_x rfl (x_as rfl) ?_
    refine l_nil ?_
    refine r_ret (rs := [.tmp 4, .tmp 5]) [_, _] Try.func31 rfl ⟨rfl, rfl, trivial⟩ ?_
    exact ⟨_, _, rfl, S9.le, by have h := KeptR.of (N := N) (arcs := arcs) (x := x); rw [Amtb, decide_eq_true hg14, Bool.true_and] at h; exact h⟩
  · skip
    refine l_pass rfl ?_
    refine l_pass rfl ?_
    refine l_pass rfl ?_
    refine l_x rfl (x_pick_f rfl rfl) ?_
    refine l_x rfl (x_mv rfl) ?_
    refine l_x rfl (x_as rfl) ?_
    refine l_x rfl (x_as rfl) ?_
    refine l_nil ?_
    refine r_ret (rs := [.tmp 4, .tmp 5]) [_, _] Try.func31 rfl ⟨rfl, rfl, trivial⟩ ?_
    exact ⟨_, _, rfl, S7.le, by have h := KeptR.of (N := N) (arcs := arcs) (x := x); rw [Amtb, decide_eq_false hg14, Bool.false_and] at h; exact h⟩

end Go.Proofs

/-
  Contracts of functions of the program: each by symbolic execution of its text.
-/
namespace Go.Proofs
open Go Go.Vk Go.Vk.Flow

abbrev EC := cirE 75
theorem keyI : KeyOk Try.prog 3 (.int .i64) kInt := keyInt Try.underlying3
theorem info75 : Try.prog.info? 75 = some Try.t75 := by kernel_rfl
theorem size75 : (Try.prog.info? 75).map (·.size) = some 2 := by rw [info75]; rfl

set_option maxHeartbeats 4000000 in
/-- couchant/flow.circular. -/
theorem c_circular (N : Int) (va : Value) (arcs : List Arc) (h : Hd) (l : List Int) (m : Int) (hV : Valid N arcs) (hm : l.length ≤ 9223372036854775806) (w : World) (hA : Rd EA w va arcs) (hL : Rd EI w (hv h) l) :
    Cl Try.prog 110 #[.agg #[.int .i64 N, va], .agg #[hv h, .int .i64 m]] w fun v w' => v = .bool (cirB arcs (l, m)) ∧ Le w w' := by
  have hLx := hV.len
  refine fn_of_run (args := [_, _]) 85 Try.func110 rfl rfl rfl fun cs => ?_
  have S := Own.start (X := nob) w
  refine r_seq ?_
  refine r_region ?_
  refine l_box S rfl rfl ?_
  intro b4 w1 S2 hl3
  refine l_box S2 rfl rfl ?_
  intro b8 w5 S6 hl7
  refine l_x rfl (x_as rfl) ?_
  refine l_nil ?_
  refine r_seq ?_
  refine r_seq ?_
  refine r_region ?_
  refine l_x rfl (x_fieldAddr rfl Try.runUnderlying75 rfl Try.sizeOf25 (by decide)) ?_
  refine l_x rfl (x_load rfl (ld_blk (S6.blk 1 rfl) Try.isAgg25 rfl)) ?_
  refine l_x rfl (x_len (hL.le S6.le) rfl Try.runUnderlying25) ?_
  refine l_x rfl (x_eql rfl rfl) ?_
  refine l_x rfl (x_mv rfl) ?_
  refine l_splitd (d := 13) rfl (fun hg13 => ?_) (fun hg13 => ?_)
  · skip
    refine l_pass rfl ?_
    refine l_pass rfl ?_
    refine l_pass rfl ?_
    refine l_pass rfl ?_
    refine l_x rfl (x_pick_t rfl rfl) ?_
    refine l_nil ?_
    refine r_true rfl ?_
    refine r_seq ?_
    refine r_region ?_
    refine l_x rfl (x_as rfl) ?_
    refine l_nil ?_
    refine r_ret (rs := [.tmp 4]) [_] Try.func110 rfl ⟨rfl, trivial⟩ ?_
    exact ⟨congrArg Value.bool (no_len (by omega)).symm, S6.le⟩
  · skip
    refine l_x rfl (x_fieldAddr rfl Try.runUnderlying75 rfl Try.sizeOf3 (by decide)) ?_
    refine l_x rfl (x_load rfl (ld_blk (S6.blk 1 rfl) Try.isAgg3 rfl)) ?_
    refine l_call [] [] [_, _, _] rfl rfl Try.call64 rfl (c_in _ _ _ _) ?_
    rintro _ w9 ⟨rfl, hl11⟩
    have S10 := S6.step hl11
    refine l_x rfl (x_notd rfl) ?_
    refine l_x rfl (x_pick_f rfl rfl) ?_
    refine l_nil ?_
    refine r_ifd rfl (fun hc18 => ?_) (fun hc18 => ?_)
    · skip
      refine r_seq ?_
      refine r_region ?_
      refine l_x rfl (x_as rfl) ?_
      refine l_nil ?_
      refine r_ret (rs := [.tmp 4]) [_] Try.func110 rfl ⟨rfl, trivial⟩ ?_
      exact ⟨congrArg Value.bool (no_am hc18).symm, S10.le⟩
    · skip
      have ham := Decidable.not_not.1 hc18
      refine r_skip ?_
      refine r_seq ?_
      refine r_region ?_
      refine l_makeMap kInt Value.bool S10 rfl ?_
      intro m15 w12 S13 hl14
      refine l_x rfl (x_as rfl) ?_
      refine l_nil ?_
      refine r_seq ?_
      refine r_seq ?_
      refine r_region ?_
      refine l_x rfl (x_fieldAddr rfl Try.runUnderlying75 rfl Try.sizeOf25 (by decide)) ?_
      refine l_x rfl (x_load rfl (ld_blk (S13.blk 1 rfl) Try.isAgg25 rfl)) ?_
      refine l_x rfl (x_len (hL.le S13.le) rfl Try.runUnderlying25) ?_
      refine l_x rfl (x_mv rfl) ?_
      refine l_nil ?_
      refine r_block ?_
      refine r_loop (G := Nat) (fun k => l.length - k) (fun k => [(2, .pointer (some ⟨b4, 0, none⟩)), (3, .pointer (some ⟨b8, 0, none⟩)), (5, .map (some m15)), (21, hv h), (22, .int .i64 l.length), (23, .int .i64 k)]) (fun k w' => (k ≤ l.length) ∧ (CirI arcs l (LdN arcs l) k) ∧ Own nob w w' [blk b4 [.int .i64 N, va] 24, blk b8 [hv h, .int .i64 m] 75, mapr kInt Value.bool m15 (seenM arcs l k)]) 0 ⟨rfl, rfl, rfl, rfl, rfl, rfl, trivial⟩ ⟨Nat.zero_le _, CirI.zero, (by rw [seenM_zero]; exact S13)⟩ ?_
      rintro k ρ w1 ⟨hi, hI, S1⟩ IH
      refine r_seq ?_
      refine r_region ?_
      refine l_x rfl (x_lss rfl rfl) ?_
      refine l_nil ?_
      refine r_seq ?_
      refine r_ifd rfl (fun hc24 => ?_) (fun hc24 => ?_)
      · skip
        obtain ⟨i, hi9⟩ : ∃ i, l[k]? = some i := ⟨_, List.getElem?_eq_getElem (by omega)⟩
        refine r_skip ?_
        refine r_seq ?_
        refine r_block ?_
        refine r_seq ?_
        refine r_region ?_
        refine l_x rfl (x_mv rfl) ?_
        refine l_index EI rfl (hL.le S1.le) rfl rfl Try.runUnderlying25 Try.sizeOf3 (by omega) hi9 ?_
        intro b16 o17 hat18 row19
        refine l_x rfl (x_load rfl (ld_cell Try.isAgg3 (row19 0 _ rfl))) ?_
        refine l_x rfl (x_as rfl) ?_
        refine l_x rfl (x_as rfl) ?_
        refine l_nil ?_
        refine r_seq ?_
        refine r_seq ?_
        refine r_region ?_
        refine l_x rfl (x_mv rfl) ?_
        refine l_x rfl (x_fieldAddr rfl Try.runUnderlying24 rfl Try.sizeOf22 (by decide)) ?_
        refine l_x rfl (x_load rfl (ld_blk (S1.blk 0 rfl) Try.isAgg22 rfl)) ?_
        refine l_x rfl (x_len (hA.le S1.le) rfl Try.runUnderlying22) ?_
        refine l_x rfl (x_sub rfl rfl (by omega)) ?_
        refine l_call [] [] [_, _, _] rfl rfl Try.call64 rfl (c_in _ _ _ _) ?_
        rintro _ w20 ⟨rfl, hl22⟩
        have S21 := S1.step hl22
        refine l_x rfl (x_notd rfl) ?_
        refine l_nil ?_
        refine r_ifd rfl (fun hc34 => ?_) (fun hc34 => ?_)
        · skip
          refine r_seq ?_
          refine r_region ?_
          refine l_x rfl (x_as rfl) ?_
          refine l_nil ?_
          refine r_ret (rs := [.tmp 4]) [_] Try.func110 rfl ⟨rfl, trivial⟩ ?_
          exact ⟨congrArg Value.bool (no_ok hi9 (by omega)).symm, S21.le⟩
        · skip
          have hir : 0 ≤ i ∧ i < arcs.length := by omega
          obtain ⟨a, ha⟩ : ∃ a, arcs[i.toNat]? = some a := ⟨_, List.getElem?_eq_getElem (by omega)⟩
          refine r_skip ?_
          refine r_seq ?_
          obtain ⟨i2, hi2⟩ : ∃ i2, l[nx l.length k]? = some i2 := ⟨_, List.getElem?_eq_getElem (nx_lt (by omega))⟩
          have hq2 : l[(((k : Int) + 1) % (l.length : Int)).toNat]? = some i2 := by rw [nx_cast]; exact hi2
          refine r_drawR 11 Try.mixed (by kernel_rfl) ?_
          refine w_x rfl (fun w1 h1 => x_fieldAddr rfl Try.runUnderlying75 rfl Try.sizeOf25 (by decide)) ?_
          refine w_x rfl (fun w1 h1 => x_load rfl (ld_blk ((S21.step h1).blk 1 rfl) Try.isAgg25 rfl)) ?_
          refine w_x rfl (fun w1 h1 => x_mv rfl) ?_
          refine w_x rfl (fun w1 h1 => x_add rfl rfl (by omega)) ?_
          refine w_x rfl (fun w1 h1 => x_fieldAddr rfl Try.runUnderlying75 rfl Try.sizeOf25 (by decide)) ?_
          refine w_x rfl (fun w1 h1 => x_load rfl (ld_blk ((S21.step h1).blk 1 rfl) Try.isAgg25 rfl)) ?_
          refine w_x rfl (fun w1 h1 => x_len (hL.le (S21.step h1).le) rfl Try.runUnderlying25) ?_
          refine w_x rfl (fun w1 h1 => x_rem rfl rfl (by omega)) ?_
          refine w_index EI rfl (hL.le S21.le) rfl rfl Try.runUnderlying25 Try.sizeOf3 (Int.emod_nonneg _ (by omega)) hq2 ?_
          intro b23 o24 hat25 row26
          refine w_x rfl (fun w1 h1 => x_load rfl (ld_cell Try.isAgg3 ((row26.le h1) 0 _ rfl))) ?_
          refine w_x rfl (fun w1 h1 => x_as rfl) ?_
          refine w_nil ?_
          intro w27 hl28
          have S29 := S21.step hl28
          refine l_nil ?_
          refine r_seq ?_
          refine r_seq ?_
          refine r_drawR 32 Try.mixed (by kernel_rfl) ?_
          refine w_x rfl (fun w1 h1 => x_mv rfl) ?_
          refine w_x rfl (fun w1 h1 => x_fieldAddr rfl Try.runUnderlying24 rfl Try.sizeOf22 (by decide)) ?_
          refine w_x rfl (fun w1 h1 => x_load rfl (ld_blk ((S29.step h1).blk 0 rfl) Try.isAgg22 rfl)) ?_
          refine w_x rfl (fun w1 h1 => x_len (hA.le (S29.step h1).le) rfl Try.runUnderlying22) ?_
          refine w_x rfl (fun w1 h1 => x_sub rfl rfl (by omega)) ?_
          refine wd_call [] [] [_, _, _] rfl rfl Try.call64 rfl (fun w1 h1 => c_in _ _ _ _) ?_
          refine w_x rfl (fun w1 h1 => x_notd rfl) ?_
          refine w_x rfl (fun w1 h1 => x_mv rfl) ?_
          refine w_splitd (d := 52) rfl (fun hg52 => ?_) (fun hg52 => ?_)
          · skip
            refine w_pass rfl ?_
            refine w_pass rfl ?_
            refine w_pass rfl ?_
            refine w_pass rfl ?_
            refine w_pass rfl ?_
            refine w_pass rfl ?_
            refine w_pass rfl ?_
            refine w_pass rfl ?_
            refine w_pass rfl ?_
            refine w_pass rfl ?_
            refine w_pass rfl ?_
            refine w_pass rfl ?_
            refine w_pass rfl ?_
            refine w_x rfl (fun w1 h1 => x_pick_t rfl rfl) ?_
            refine w_x rfl (fun w1 h1 => x_mv rfl) ?_
            refine w_pass rfl ?_
            refine w_pass rfl ?_
            refine w_pass rfl ?_
            refine w_pass rfl ?_
            refine w_pass rfl ?_
            refine w_pass rfl ?_
            refine w_pass rfl ?_
            refine w_pass rfl ?_
            refine w_x rfl (fun w1 h1 => x_pick_t rfl rfl) ?_
            refine w_nil ?_
            intro w30 hl31
            have S32 := S29.step hl31
            refine l_nil ?_
            refine r_true rfl ?_
            refine r_seq ?_
            refine r_region ?_
            refine l_x rfl (x_as rfl) ?_
            refine l_nil ?_
            refine r_ret (rs := [.tmp 4]) [_] Try.func110 rfl ⟨rfl, trivial⟩ ?_
            exact ⟨congrArg Value.bool (no_ok hi2 (by omega)).symm, S32.le⟩
          · skip
            have hir2 : 0 ≤ i2 ∧ i2 < arcs.length := by omega
            obtain ⟨b, hb⟩ : ∃ b, arcs[i2.toNat]? = some b := ⟨_, List.getElem?_eq_getElem (by omega)⟩
            refine w_x rfl (fun w1 h1 => x_fieldAddr rfl Try.runUnderlying24 rfl Try.sizeOf22 (by decide)) ?_
            refine w_x rfl (fun w1 h1 => x_load rfl (ld_blk ((S29.step h1).blk 0 rfl) Try.isAgg22 rfl)) ?_
            refine w_x rfl (fun w1 h1 => x_mv rfl) ?_
            refine w_index EA rfl (hA.le S29.le) rfl rfl Try.runUnderlying22 Try.sizeOf39 (by omega) ha ?_
            intro b33 o34 hat35 row36
            refine w_x rfl (fun w1 h1 => x_fieldAddr rfl Try.runUnderlying39 rfl Try.sizeOf3 (by decide)) ?_
            refine w_x rfl (fun w1 h1 => x_load rfl (ld_cell Try.isAgg3 ((row36.le h1) 1 _ rfl))) ?_
            refine w_x rfl (fun w1 h1 => x_fieldAddr rfl Try.runUnderlying24 rfl Try.sizeOf22 (by decide)) ?_
            refine w_x rfl (fun w1 h1 => x_load rfl (ld_blk ((S29.step h1).blk 0 rfl) Try.isAgg22 rfl)) ?_
            refine w_x rfl (fun w1 h1 => x_mv rfl) ?_
            refine w_index EA rfl (hA.le S29.le) rfl rfl Try.runUnderlying22 Try.sizeOf39 (by omega) hb ?_
            intro b37 o38 hat39 row40
            refine w_x rfl (fun w1 h1 => x_fieldAddr rfl Try.runUnderlying39 rfl Try.sizeOf3 (by decide)) ?_
            refine w_x rfl (fun w1 h1 => x_load rfl (ld_cell Try.isAgg3 ((row40.le h1) 0 _ rfl))) ?_
            refine w_x rfl (fun w1 h1 => x_neq rfl rfl) ?_
            refine w_x rfl (fun w1 h1 => x_pick_f rfl rfl) ?_
            refine w_x rfl (fun w1 h1 => x_mv rfl) ?_
            refine w_splitd (d := 67) rfl (fun hg67 => ?_) (fun hg67 => ?_)
            · skip
              refine w_pass rfl ?_
              refine w_pass rfl ?_
              refine w_pass rfl ?_
              refine w_pass rfl ?_
              refine w_pass rfl ?_
              refine w_pass rfl ?_
              refine w_pass rfl ?_
              refine w_pass rfl ?_
              refine w_x rfl (fun w1 h1 => x_pick_t rfl rfl) ?_
              refine w_nil ?_
              intro w41 hl42
              have S43 := S29.step hl42
              refine l_nil ?_
              refine r_true rfl ?_
              refine r_seq ?_
              refine r_region ?_
              refine l_x rfl (x_as rfl) ?_
              refine l_nil ?_
              refine r_ret (rs := [.tmp 4]) [_] Try.func110 rfl ⟨rfl, trivial⟩ ?_
              exact ⟨congrArg Value.bool (no_leadN hi9 hi2 ha hb hg67).symm, S43.le⟩
            · skip
              refine w_x rfl (fun w1 h1 => x_mv rfl) ?_
              refine w_x rfl (fun w1 h1 => x_fieldAddr rfl Try.runUnderlying24 rfl Try.sizeOf22 (by decide)) ?_
              refine w_x rfl (fun w1 h1 => x_load rfl (ld_blk ((S29.step h1).blk 0 rfl) Try.isAgg22 rfl)) ?_
              refine w_x rfl (fun w1 h1 => x_mv rfl) ?_
              refine w_index EA rfl (hA.le S29.le) rfl rfl Try.runUnderlying22 Try.sizeOf39 (by omega) ha ?_
              intro b44 o45 hat46 row47
              refine w_x rfl (fun w1 h1 => x_fieldAddr rfl Try.runUnderlying39 rfl Try.sizeOf3 (by decide)) ?_
              refine w_x rfl (fun w1 h1 => x_load rfl (ld_cell Try.isAgg3 ((row47.le h1) 0 _ rfl))) ?_
              refine w_x rfl (fun w1 h1 => x_lookup ((S29.step h1).at 2 rfl) keyI Try.runUnderlying137 rfl rfl Try.zeroValue4 seenM_val) ?_
              refine w_x rfl (fun w1 h1 => x_pick_f rfl rfl) ?_
              refine w_nil ?_
              intro w48 hl49
              have S50 := S29.step hl49
              refine l_nil ?_
              refine r_if rfl (fun hc76 => ?_) (fun hc76 => ?_)
              · skip
                refine r_seq ?_
                refine r_region ?_
                refine l_x rfl (x_as rfl) ?_
                refine l_nil ?_
                refine r_ret (rs := [.tmp 4]) [_] Try.func110 rfl ⟨rfl, trivial⟩ ?_
                exact ⟨congrArg Value.bool (no_once hi9 ha hc76).symm, S50.le⟩
              · skip
                refine r_skip ?_
                refine r_region ?_
                refine l_x rfl (x_mv rfl) ?_
                refine l_x rfl (x_fieldAddr rfl Try.runUnderlying24 rfl Try.sizeOf22 (by decide)) ?_
                refine l_x rfl (x_load rfl (ld_blk (S50.blk 0 rfl) Try.isAgg22 rfl)) ?_
                refine l_x rfl (x_mv rfl) ?_
                refine l_index EA rfl (hA.le S50.le) rfl rfl Try.runUnderlying22 Try.sizeOf39 (by omega) ha ?_
                intro b51 o52 hat53 row54
                refine l_x rfl (x_fieldAddr rfl Try.runUnderlying39 rfl Try.sizeOf3 (by decide)) ?_
                refine l_x rfl (x_load rfl (ld_cell Try.isAgg3 (row54 0 _ rfl))) ?_
                refine l_mapUpdate S50 2 rfl rfl keyI Try.runUnderlying137 rfl rfl rfl ?_
                intro w55 S56 hk57
                refine l_nil ?_
                refine r_inBlock ?_
                refine r_region ?_
                refine l_x rfl (x_add rfl rfl (by omega)) ?_
                refine l_x rfl (x_mv rfl) ?_
                refine l_nil ?_
                exact IH (k + 1) _ _ (by omega) ⟨rfl, rfl, rfl, rfl, rfl, rfl, trivial⟩ ⟨by omega, hI.step hi9 hir ha (leads_of hi9 hi2 ha hb (Decidable.not_not.1 hg67)) hc76, (by rw [← seenM_step hi9 ha]; exact S56)⟩
      · skip
        have hie : k = l.length := by omega
        subst hie
        refine r_exit rfl ?_
        refine r_seq ?_
        refine r_region ?_
        refine l_x rfl (x_as rfl) ?_
        refine l_nil ?_
        refine r_ret (rs := [.tmp 4]) [_] Try.func110 rfl ⟨rfl, trivial⟩ ?_
        exact ⟨congrArg Value.bool (hI.doneN (by omega) ham).symm, S1.le⟩

/-- couchant/flow.FromCircles$1. -/
theorem c_FromCircles1 (N : Int) (va : Value) (arcs : List Arc) (h : Hd) (l : List Int) (m : Int) (bg : Nat) (hV : Valid N arcs) (hm : l.length ≤ 9223372036854775806) (w : World) (hg : Blk w bg [.int .i64 N, va] 24) (hA : Rd EA w va arcs) (hL : Rd EI w (hv h) l) :
    Cl Try.prog 109 #[.agg #[hv h, .int .i64 m], .pointer (some ⟨bg, 0, none⟩)] w fun v w' => v = .bool (!cirB arcs (l, m)) ∧ Le w w' := by
  refine fn_of_run (args := [_, _]) 8 Try.func109 rfl rfl rfl fun cs => ?_
  have S := Own.start (X := nob) w
  refine r_seq ?_
  refine r_region ?_
  refine l_box S rfl rfl ?_
  intro b4 w1 S2 hl3
  refine l_x rfl (x_as rfl) ?_
  refine l_nil ?_
  refine r_seq ?_
  refine r_region ?_
  refine l_x rfl (x_load rfl (ld_blks (hg.keep S2.le id) Try.isAgg24 Try.sizeOf24 rfl rfl)) ?_
  refine l_x rfl (x_load rfl (ld_blks (S2.blk 0 rfl) Try.isAgg75 Try.sizeOf75 rfl rfl)) ?_
  refine l_call [] [] [_, _] rfl rfl Try.call110 rfl (c_circular _ _ _ _ _ _ hV hm _ (hA.le S2.le) (hL.le S2.le)) ?_
  rintro _ w5 ⟨rfl, hl7⟩
  have S6 := S2.step hl7
  refine l_x rfl (x_not rfl) ?_
  refine l_x rfl (x_as rfl) ?_
  refine l_nil ?_
  refine r_ret (rs := [.tmp 3]) [_] Try.func109 rfl ⟨rfl, trivial⟩ ?_
  exact ⟨rfl, S6.le⟩

/-- couchant/flow.FromCircles$2. -/
theorem c_FromCircles2 (n : Int) (w : World) :
    Cl Try.prog 112 #[.int .i64 n] w fun v w' => v = .bool (decide (1000000 < n)) ∧ Le w w' := by
  refine fn_of_run (args := [_]) 5 Try.func112 rfl rfl rfl fun cs => ?_
  have S := Own.start (X := nob) w
  refine r_seq ?_
  refine r_region ?_
  refine l_x rfl (x_as rfl) ?_
  refine l_nil ?_
  refine r_seq ?_
  refine r_region ?_
  refine l_x rfl (x_mv rfl) ?_
  refine l_x rfl (x_gtr rfl rfl) ?_
  refine l_x rfl (x_as rfl) ?_
  refine l_nil ?_
  refine r_ret (rs := [.tmp 2]) [_] Try.func112 rfl ⟨rfl, trivial⟩ ?_
  exact ⟨rfl, S.le⟩

/-- slices.IndexFunc[[]couchant/api.Circle,couchant/api.Circle]. -/
theorem c_IndexFuncCir (va : Value) (l : List (Hd × Int)) (p : (Hd × Int) → Bool) (kf : Nat) (caps : List Value) (hmx : l.length ≤ 9223372036854775807) (w : World) (hA : Rd EC w va l) (he : ∀ args w, (callFunc kf args).run Try.prog w = .ok (.enter kf args) w)
    (hf : ∀ x ∈ l, ∀ w1, Le w w1 → Cl Try.prog kf ([Value.agg (EC.enc x).toArray] ++ caps).toArray w1 fun v w2 => v = .bool (p x) ∧ Le w1 w2) :
    Cl Try.prog 132 #[va, .func (.func kf) #[] caps.toArray] w fun v w' => v = .int .i64 (idx p l) ∧ Le w w' := by
  refine fn_of_run (args := [_, _]) 19 Try.func132 rfl rfl rfl fun cs => ?_
  have S := Own.start (X := nob) w
  refine r_seq ?_
  refine r_region ?_
  refine l_x rfl (x_as rfl) ?_
  refine l_nil ?_
  refine r_seq ?_
  refine r_seq ?_
  refine r_region ?_
  refine l_x rfl (x_mv rfl) ?_
  refine l_x rfl (x_len (hA.le S.le) rfl Try.runUnderlying73) ?_
  refine l_x rfl (x_mv rfl) ?_
  refine l_nil ?_
  refine r_block ?_
  refine r_loop (G := Nat) (fun i => l.length - i) (fun i => [(0, va), (1, .func (.func kf) #[] caps.toArray), (8, .int .i64 i), (7, .int .i64 l.length)]) (fun i w' => (i ≤ l.length) ∧ (∀ x ∈ l.take i, p x = false) ∧ Own nob w w' []) 0 ⟨rfl, rfl, rfl, rfl, trivial⟩ ⟨Nat.zero_le _, by simp, S⟩ ?_
  rintro i ρ w1 ⟨hi, hno, S1⟩ IH
  refine r_seq ?_
  refine r_region ?_
  refine l_x rfl (x_lss rfl rfl) ?_
  refine l_nil ?_
  refine r_seq ?_
  refine r_ifd rfl (fun hc9 => ?_) (fun hc9 => ?_)
  · skip
    have ha : l[i]? = some l[i] := List.getElem?_eq_getElem (by omega)
    refine r_skip ?_
    refine r_seq ?_
    refine r_block ?_
    refine r_seq ?_
    refine r_region ?_
    refine l_x rfl (x_mv rfl) ?_
    refine l_x rfl (x_as rfl) ?_
    refine l_nil ?_
    refine r_seq ?_
    refine r_region ?_
    refine l_x rfl (x_mv rfl) ?_
    refine l_x rfl (x_mv rfl) ?_
    refine l_x rfl (x_mv rfl) ?_
    refine l_index EC rfl (hA.le S1.le) rfl rfl Try.runUnderlying73 Try.sizeOf75 (by omega) (by first | assumption | exact List.getElem?_eq_getElem (by omega)) ?_
    intro b1 o2 hat3 row4
    refine l_x rfl (x_load rfl (ld_row Try.isAgg75 Try.sizeOf75 rfl row4)) ?_
    refine l_call [] caps ([_] ++ caps) rfl rfl he rfl (hf _ (List.mem_of_getElem? ha) _ S1.le) ?_
    rintro _ w5 ⟨rfl, hl7⟩
    have S6 := S1.step hl7
    refine l_nil ?_
    refine r_if rfl (fun hc16 => ?_) (fun hc16 => ?_)
    · skip
      refine r_seq ?_
      refine r_region ?_
      refine l_x rfl (x_mv rfl) ?_
      refine l_x rfl (x_as rfl) ?_
      refine l_nil ?_
      refine r_ret (rs := [.tmp 4]) [_] Try.func132 rfl ⟨rfl, trivial⟩ ?_
      exact ⟨congrArg (Value.int .i64) (idx_at ha hc16 hno).symm, S6.le⟩
    · skip
      have hno' : ∀ x ∈ l.take (i + 1), p x = false := by
        intro x hx
        rw [List.take_add_one, ha] at hx
        rcases List.mem_append.1 hx with h | h
        · exact hno x h
        · simp at h; subst h; exact hc16
      refine r_skip ?_
      refine r_inBlock ?_
      refine r_region ?_
      refine l_x rfl (x_add rfl rfl (by omega)) ?_
      refine l_x rfl (x_mv rfl) ?_
      refine l_nil ?_
      exact IH (i + 1) _ _ (by omega) ⟨rfl, rfl, rfl, rfl, trivial⟩ ⟨by omega, hno', S6⟩
  · skip
    have hi : i = l.length := by omega
    subst hi
    refine r_exit rfl ?_
    refine r_seq ?_
    refine r_region ?_
    refine l_x rfl (x_as rfl) ?_
    refine l_nil ?_
    refine r_ret (rs := [.tmp 4]) [_] Try.func132 rfl ⟨rfl, trivial⟩ ?_
    exact ⟨congrArg (Value.int .i64) (idx_none (by rwa [List.take_length] at hno)).symm, S1.le⟩

/-- slices.ContainsFunc[[]couchant/api.Circle,couchant/api.Circle]. -/
theorem c_ContainsFuncCir (va : Value) (l : List (Hd × Int)) (p : (Hd × Int) → Bool) (kf : Nat) (caps : List Value) (hmx : l.length ≤ 9223372036854775807) (w : World) (hA : Rd EC w va l) (he : ∀ args w, (callFunc kf args).run Try.prog w = .ok (.enter kf args) w)
    (hf : ∀ x ∈ l, ∀ w1, Le w w1 → Cl Try.prog kf ([Value.agg (EC.enc x).toArray] ++ caps).toArray w1 fun v w2 => v = .bool (p x) ∧ Le w1 w2) :
    Cl Try.prog 108 #[va, .func (.func kf) #[] caps.toArray] w fun v w' => v = .bool (l.any p) ∧ Le w w' := by
  refine fn_of_run (args := [_, _]) 9 Try.func108 rfl rfl rfl fun cs => ?_
  have S := Own.start (X := nob) w
  refine r_seq ?_
  refine r_region ?_
  refine l_x rfl (x_as rfl) ?_
  refine l_nil ?_
  refine r_seq ?_
  refine r_region ?_
  refine l_x rfl (x_mv rfl) ?_
  refine l_x rfl (x_mv rfl) ?_
  refine l_call [] [] [_, _] rfl rfl Try.call132 rfl (c_IndexFuncCir _ _ p kf caps hmx _ (hA.le S.le) he (fun x hx w1 h1 => hf x hx w1 (S.le.trans h1))) ?_
  rintro _ w1 ⟨rfl, hl3⟩
  have S2 := S.step hl3
  refine l_x rfl (x_geq rfl rfl) ?_
  refine l_x rfl (x_as rfl) ?_
  refine l_nil ?_
  refine r_ret (rs := [.tmp 4]) [_] Try.func108 rfl ⟨rfl, trivial⟩ ?_
  exact ⟨congrArg Value.bool (Bool.eq_iff_iff.2 (by rw [decide_eq_true_iff]; exact idx_ge p l)), S2.le⟩

/-- Is one of the circles none? -/
theorem c_anyCir (N : Int) (va : Value) (arcs : List Arc) (vl : Value) (ds : List (Hd × Int)) (cs : List Crc) (bg : Nat) (hV : Valid N arcs) (hm : ∀ c ∈ cs, c.1.length ≤ 9223372036854775806) (hd : ds.length ≤ 9223372036854775807) (w : World) (hg : Blk w bg [.int .i64 N, va] 24) (hA : Rd EA w va arcs) (hC : CsR 3 75 w vl ds cs) :
    Cl Try.prog 108 #[vl, .func (.func 109) #[] #[.pointer (some ⟨bg, 0, none⟩)]] w fun v w' => v = .bool (ds.any (cirP arcs ds cs)) ∧ Le w w' :=
  c_ContainsFuncCir vl ds (cirP arcs ds cs) 109 [.pointer (some ⟨bg, 0, none⟩)] hd w hC.rd Try.call109 fun x hx w1 h1 => by
    obtain ⟨i, hi⟩ := List.mem_iff_getElem?.1 hx
    obtain ⟨c, hc⟩ : ∃ c, cs[i]? = some c := ⟨_, List.getElem?_eq_getElem (by have := (List.getElem?_eq_some_iff.1 hi).1; rw [← hC.len]; exact this)⟩
    obtain ⟨q1, q2⟩ := hC.each i x c hi hc
    have h2 := c_FromCircles1 N va arcs x.1 c.1 c.2 bg hV (hm c (List.mem_of_getElem? hc)) w1 (hg.keep h1 id) (hA.le h1) (q1.le h1)
    rw [← q2] at h2
    have e : (c.1, x.2) = c := by rw [q2]
    rw [e, ← hC.val hi hc] at h2
    exact h2

set_option maxHeartbeats 4000000 in
/-- couchant/flow.FromCircles. -/
theorem c_FromCircles (N : Int) (va : Value) (arcs : List Arc) (vl : Value) (ds : List (Hd × Int)) (zs : List Crc) (hm : ∀ c ∈ zs, c.1.length ≤ 9223372036854775806) (hmd : ds.length ≤ 9223372036854775806) (w : World) (hA : Rd EA w va arcs) (hC : CsR 3 75 w vl ds zs) :
    Cl Try.prog 57 #[.agg #[.int .i64 N, va], vl] w fun v w' => ∃ s l e, v = .tuple #[s, .int .i64 e] ∧ New w w' (vec EI s l) ∧ Le w w' ∧ FrcR N arcs zs l e := by
  refine fn_of_run (args := [_, _]) 53 Try.func57 rfl rfl rfl fun cs => ?_
  have S := Own.start (X := nob) w
  refine r_seq ?_
  refine r_region ?_
  refine l_box S rfl rfl ?_
  intro b4 w1 S2 hl3
  refine l_x rfl (x_as rfl) ?_
  refine l_x rfl (x_as rfl) ?_
  refine l_nil ?_
  refine r_seq ?_
  refine r_seq ?_
  refine r_region ?_
  refine l_x rfl (x_load rfl (ld_blks (S2.blk 0 rfl) Try.isAgg24 Try.sizeOf24 rfl rfl)) ?_
  refine l_call [] [] [_] rfl rfl Try.call36 rfl (c_Check N va arcs _ (hA.le S2.le)) ?_
  rintro _ w5 ⟨rfl, hl7⟩
  have S6 := S2.step hl7
  refine l_x rfl (x_as rfl) ?_
  refine l_nil ?_
  refine r_seq ?_
  refine r_region ?_
  refine l_x rfl (x_mv rfl) ?_
  refine l_x rfl (x_neq rfl rfl) ?_
  refine l_nil ?_
  refine r_ifd rfl (fun hc15 => ?_) (fun hc15 => ?_)
  · skip
    refine r_seq ?_
    refine r_region ?_
    refine l_x rfl (x_mv rfl) ?_
    refine l_x rfl (x_as rfl) ?_
    refine l_x rfl (x_as rfl) ?_
    refine l_nil ?_
    refine r_ret (rs := [.tmp 4, .tmp 5]) [_, _] Try.func57 rfl ⟨rfl, rfl, trivial⟩ ?_
    exact ⟨_, _, _, rfl, New.nilvec .., S6.le, .bad hc15⟩
  · skip
    have h0 := Decidable.not_not.1 hc15
    have hV := chk_zero.1 h0
    have hLx := hV.len
    refine r_skip ?_
    refine r_seq ?_
    refine r_seq ?_
    refine r_region ?_
    refine l_x rfl (x_mv rfl) ?_
    refine l_x rfl (x_len (hC.rd.le S6.le) rfl Try.runUnderlying73) ?_
    refine l_x rfl (x_gtr rfl rfl) ?_
    refine l_nil ?_
    refine r_ifd rfl (fun hc19 => ?_) (fun hc19 => ?_)
    · skip
      refine r_seq ?_
      refine r_region ?_
      refine l_x rfl (x_as rfl) ?_
      refine l_x rfl (x_as rfl) ?_
      refine l_nil ?_
      refine r_ret (rs := [.tmp 4, .tmp 5]) [_, _] Try.func57 rfl ⟨rfl, rfl, trivial⟩ ?_
      exact ⟨_, _, _, rfl, New.nilvec .., S6.le, .many h0 (by have := hC.len; omega)⟩
    · skip
      have hCl := hC.len
      refine r_skip ?_
      refine r_seq ?_
      refine r_seq ?_
      refine r_region ?_
      refine l_x rfl (x_mv rfl) ?_
      refine l_x rfl (x_func rfl rfl) ?_
      refine l_call [] [] [_, _] rfl rfl Try.call108 rfl (c_anyCir N va arcs _ ds zs _ hV hm (by have := hC.len; omega) _ (S6.blk 0 rfl) (hA.le S6.le) (hC.le S6.le)) ?_
      rintro _ w8 ⟨rfl, hl10⟩
      have S9 := S6.step hl10
      refine l_nil ?_
      refine r_if rfl (fun hc22 => ?_) (fun hc22 => ?_)
      · skip
        refine r_seq ?_
        refine r_region ?_
        refine l_x rfl (x_as rfl) ?_
        refine l_x rfl (x_as rfl) ?_
        refine l_nil ?_
        refine r_ret (rs := [.tmp 4, .tmp 5]) [_, _] Try.func57 rfl ⟨rfl, rfl, trivial⟩ ?_
        obtain ⟨c, hcm, hcn⟩ := hC.any.1 hc22
        exact ⟨_, _, _, rfl, New.nilvec .., S9.le, .arg h0 (by have := hC.len; omega) hcm hcn⟩
      · skip
        have hall := hC.all hc22
        refine r_skip ?_
        refine r_seq ?_
        refine r_region ?_
        refine l_x rfl (x_fieldAddr rfl Try.runUnderlying24 rfl Try.sizeOf22 (by decide)) ?_
        refine l_x rfl (x_load rfl (ld_blk (S9.blk 0 rfl) Try.isAgg22 rfl)) ?_
        refine l_x rfl (x_len (hA.le S9.le) rfl Try.runUnderlying22) ?_
        refine l_make EI 0 S9 rfl Try.runUnderlying25 Try.sizeOf3 Try.typeInfo3 Try.zeroValue3 rfl rfl rfl rfl (Nat.le_refl _) (by unfold maxLen; omega) (by show _ * 8 ≤ _; omega) ?_
        intro v14 w11 hv15 S12 hl13
        refine l_x rfl (x_as rfl) ?_
        refine l_nil ?_
        refine r_seq ?_
        refine r_seq ?_
        refine r_region ?_
        refine l_x rfl (x_mv rfl) ?_
        refine l_x rfl (x_len (hC.rd.le S12.le) rfl Try.runUnderlying73) ?_
        refine l_x rfl (x_mv rfl) ?_
        refine l_nil ?_
        refine r_block ?_
        refine r_loop (G := Nat) (fun i => ds.length - i) (fun i => [(7, v14), (27, vl), (28, .int .i64 ds.length), (29, .int .i64 i)]) (fun i w' => (i ≤ ds.length) ∧ Own nob w w' [blk b4 [.int .i64 N, va] 24, vec EI v14 (tabL arcs.length (addAll (zs.take i)))]) 0 ⟨rfl, rfl, rfl, rfl, trivial⟩ ⟨Nat.zero_le _, (by rw [List.take_zero, show addAll [] = (fun _ => 0) from rfl, tabL_zero]; exact S12)⟩ ?_
        rintro i ρ w1a ⟨hi, S1a⟩ IHa
        refine r_seq ?_
        refine r_region ?_
        refine l_x rfl (x_lss rfl rfl) ?_
        refine l_nil ?_
        refine r_seq ?_
        refine r_ifd rfl (fun hc30 => ?_) (fun hc30 => ?_)
        · skip
          obtain ⟨⟨dh, dm⟩, hdd⟩ : ∃ d, ds[i]? = some d := ⟨_, List.getElem?_eq_getElem (by omega)⟩
          obtain ⟨c, hcs⟩ : ∃ c, zs[i]? = some c := ⟨_, List.getElem?_eq_getElem (by omega)⟩
          obtain ⟨hE1, hE2⟩ := hC.each i _ _ hdd hcs
          simp only at hE1 hE2
          subst hE2
          have hcc := hall c (List.mem_of_getElem? hcs)
          have hcl := hm c (List.mem_of_getElem? hcs)
          refine r_skip ?_
          refine r_seq ?_
          refine r_block ?_
          refine r_seq ?_
          refine r_region ?_
          refine l_index EC rfl (hC.rd.le S1a.le) rfl rfl Try.runUnderlying73 Try.sizeOf75 (by omega) hdd ?_
          intro b16 o17 hat18 row19
          refine l_x rfl (x_load rfl (ld_row Try.isAgg75 Try.sizeOf75 rfl row19)) ?_
          refine l_alloc S1a rfl Try.zeroValue75 rfl ?_
          intro b23 w20 S21 hl22
          refine l_stores S21 2 rfl rfl rfl rfl (EC.one _) Try.sizeOf75 (by first | exact Nat.le_refl _ | simp) (splice_all rfl) ?_
          intro w24 S25 hk26
          refine l_nil ?_
          refine r_seq ?_
          refine r_region ?_
          refine l_x rfl (x_fieldAddr rfl Try.runUnderlying75 rfl Try.sizeOf25 (by decide)) ?_
          refine l_x rfl (x_load rfl (ld_blk (S25.blk 2 rfl) Try.isAgg25 rfl)) ?_
          refine l_x rfl (x_len (hE1.le S25.le) rfl Try.runUnderlying25) ?_
          refine l_x rfl (x_mv rfl) ?_
          refine l_nil ?_
          refine r_block ?_
          refine r_loop (G := Nat) (fun k => c.1.length - k) (fun k => [(7, v14), (9, .pointer (some ⟨b23, 0, none⟩)), (34, hv dh), (35, .int .i64 c.1.length), (36, .int .i64 k), (27, vl), (28, .int .i64 ds.length), (29, .int .i64 i)]) (fun k w' => (k ≤ c.1.length) ∧ Own nob w w' [blk b4 [.int .i64 N, va] 24, vec EI v14 (tabL arcs.length (add1 c (addAll (zs.take i)) k)), blk b23 [hv dh, .int .i64 c.2] 75]) 0 ⟨rfl, rfl, rfl, rfl, rfl, rfl, rfl, rfl, trivial⟩ ⟨Nat.zero_le _, (by rw [add1_zero]; exact S25)⟩ ?_
          rintro k ρ w1b ⟨hk, S1b⟩ IHb
          refine r_seq ?_
          refine r_region ?_
          refine l_x rfl (x_lss rfl rfl) ?_
          refine l_nil ?_
          refine r_seq ?_
          refine r_ifd rfl (fun hc37 => ?_) (fun hc37 => ?_)
          · skip
            obtain ⟨q, hq⟩ : ∃ q, c.1[k]? = some q := ⟨_, List.getElem?_eq_getElem (by omega)⟩
            have hqr := hcc.ok q (List.mem_of_getElem? hq)
            have hbd := add1_bd (addAll_bd hall i (by omega)) hcc.am k q.toNat
            have ham := hcc.am
            refine r_skip ?_
            refine r_seq ?_
            refine r_block ?_
            refine r_seq ?_
            refine r_region ?_
            refine l_index EI rfl (hE1.le S1b.le) rfl rfl Try.runUnderlying25 Try.sizeOf3 (by omega) hq ?_
            intro b27 o28 hat29 row30
            refine l_x rfl (x_load rfl (ld_cell Try.isAgg3 (row30 0 _ rfl))) ?_
            refine l_x rfl (x_as rfl) ?_
            refine l_nil ?_
            refine r_drawR 8 Try.mixed (by kernel_rfl) ?_
            refine w_x rfl (fun w1 h1 => x_mv rfl) ?_
            refine w_x rfl (fun w1 h1 => x_mv rfl) ?_
            refine w_index EI rfl (vec_rd (S1b.at 1 rfl)) rfl rfl Try.runUnderlying25 Try.sizeOf3 (by omega) (tabL_get (by omega)) ?_
            intro b31 o32 hat33 row34
            refine w_x rfl (fun w1 h1 => x_load rfl (ld_cell Try.isAgg3 ((row34.le h1) 0 _ rfl))) ?_
            refine w_x rfl (fun w1 h1 => x_fieldAddr rfl Try.runUnderlying75 rfl Try.sizeOf3 (by decide)) ?_
            refine w_x rfl (fun w1 h1 => x_load rfl (ld_blk ((S1b.step h1).blk 2 rfl) Try.isAgg3 rfl)) ?_
            refine w_x rfl (fun w1 h1 => x_add rfl rfl (by omega)) ?_
            refine w_index EI rfl (vec_rd (S1b.at 1 rfl)) rfl rfl Try.runUnderlying25 Try.sizeOf3 (by omega) (tabL_get (by omega)) ?_
            intro b35 o36 hat37 row38
            refine w_nil ?_
            intro w39 hl40
            have S41 := S1b.step hl40
            refine l_storevi (f := 0) S41 1 rfl rfl hat37 rfl rfl Try.sizeOf3 (tabL_get (by omega)) (by decide) rfl ?_
            intro w42 S43 hk44
            refine l_nil ?_
            refine r_inBlock ?_
            refine r_region ?_
            refine l_x rfl (x_add rfl rfl (by omega)) ?_
            refine l_x rfl (x_mv rfl) ?_
            refine l_nil ?_
            exact IHb (k + 1) _ _ (by omega) ⟨rfl, rfl, rfl, rfl, rfl, rfl, rfl, rfl, trivial⟩ ⟨by omega, (by have hS := S43; rw [tabL_set, add1_step hcc hq] at hS; exact hS)⟩
          · skip
            have hke : k = c.1.length := by omega
            subst hke
            refine r_exit rfl ?_
            refine r_inBlock ?_
            refine r_region ?_
            refine l_x rfl (x_add rfl rfl (by omega)) ?_
            refine l_x rfl (x_mv rfl) ?_
            refine l_nil ?_
            exact IHa (i + 1) _ _ (by omega) ⟨rfl, rfl, rfl, rfl, trivial⟩ ⟨by omega, (by rw [addAll_take hcs]; exact S1b.take 2)⟩
        · skip
          have hie : i = ds.length := by omega
          subst hie
          have hct : zs.take ds.length = zs := List.take_of_length_le (by omega)
          rw [hct] at S1a
          refine r_exit rfl ?_
          refine r_seq ?_
          refine r_seq ?_
          refine r_region ?_
          refine l_x rfl (x_mv rfl) ?_
          refine l_call [] [] [_, _] rfl rfl Try.call111 rfl (c_ContainsFuncInt _ _ (fun z => decide (1000000 < z)) 112 [] (by rw [tabL_length]; omega) _ (vec_rd (S1a.at 1 rfl)) Try.call112 (fun x hx w1 h1 => c_FromCircles2 x w1)) ?_
          rintro _ w45 ⟨rfl, hl47⟩
          have S46 := S1a.step hl47
          refine l_nil ?_
          refine r_if rfl (fun hc51 => ?_) (fun hc51 => ?_)
          · skip
            refine r_seq ?_
            refine r_region ?_
            refine l_x rfl (x_as rfl) ?_
            refine l_x rfl (x_as rfl) ?_
            refine l_nil ?_
            refine r_ret (rs := [.tmp 4, .tmp 5]) [_, _] Try.func57 rfl ⟨rfl, rfl, trivial⟩ ?_
            obtain ⟨i, hi1, hi2⟩ := any_big.1 hc51
            exact ⟨_, _, _, rfl, New.nilvec .., S46.le, .big h0 (by have := hC.len; omega) hall hi1 hi2⟩
          · skip
            refine r_skip ?_
            refine r_seq ?_
            refine r_region ?_
            refine l_x rfl (x_mv rfl) ?_
            refine l_x rfl (x_as rfl) ?_
            refine l_x rfl (x_as rfl) ?_
            refine l_nil ?_
            refine r_ret (rs := [.tmp 4, .tmp 5]) [_, _] Try.func57 rfl ⟨rfl, rfl, trivial⟩ ?_
            exact ⟨_, _, _, rfl, S46.new 1 rfl, S46.le, .yes h0 (by have := hC.len; omega) hall (any_small hc51)⟩

end Go.Proofs

/-
  Contracts of functions of the program: each by symbolic execution of its text.
-/
namespace Go.Proofs
open Go Go.Vk Go.Vk.Flow

set_option maxHeartbeats 4000000 in
/-- couchant/couchantref06.circle. -/
theorem c_rcircle (N : Int) (va : Value) (arcs : List Arc) (h : Hd) (l : List Int) (m : Int) (hV : Valid N arcs) (hm : l.length ≤ 4611686018427387903) (w : World) (hA : Rd EA w va arcs) (hL : Rd EI w (hv h) l) :
    Cl Try.prog 113 #[.agg #[.int .i64 N, va], .agg #[hv h, .int .i64 m]] w fun v w' => v = .bool (cirB arcs (l, m)) ∧ Le w w' := by
  have hLx := hV.len
  have hNx := hV.max
  have hN1 := hV.pos
  refine fn_of_run (args := [_, _]) 102 Try.func113 rfl rfl rfl fun cs => ?_
  have S := Own.start (X := nob) w
  refine r_seq ?_
  refine r_region ?_
  refine l_box S rfl rfl ?_
  intro b4 w1 S2 hl3
  refine l_box S2 rfl rfl ?_
  intro b8 w5 S6 hl7
  refine l_x rfl (x_as rfl) ?_
  refine l_nil ?_
  refine r_seq ?_
  refine r_seq ?_
  refine r_region ?_
  refine l_x rfl (x_fieldAddr rfl Try.runUnderlying75 rfl Try.sizeOf25 (by decide)) ?_
  refine l_x rfl (x_load rfl (ld_blk (S6.blk 1 rfl) Try.isAgg25 rfl)) ?_
  refine l_x rfl (x_len (hL.le S6.le) rfl Try.runUnderlying25) ?_
  refine l_x rfl (x_lss rfl rfl) ?_
  refine l_x rfl (x_mv rfl) ?_
  refine l_splitd (d := 13) rfl (fun hg13 => ?_) (fun hg13 => ?_)
  · skip
    refine l_pass rfl ?_
    refine l_pass rfl ?_
    refine l_pass rfl ?_
    refine l_x rfl (x_pick_t rfl rfl) ?_
    refine l_x rfl (x_mv rfl) ?_
    refine l_pass rfl ?_
    refine l_pass rfl ?_
    refine l_pass rfl ?_
    refine l_x rfl (x_pick_t rfl rfl) ?_
    refine l_nil ?_
    refine r_true rfl ?_
    refine r_seq ?_
    refine r_region ?_
    refine l_x rfl (x_as rfl) ?_
    refine l_nil ?_
    refine r_ret (rs := [.tmp 4]) [_] Try.func113 rfl ⟨rfl, trivial⟩ ?_
    exact ⟨congrArg Value.bool (no_len (by omega)).symm, S6.le⟩
  · skip
    refine l_x rfl (x_fieldAddr rfl Try.runUnderlying75 rfl Try.sizeOf3 (by decide)) ?_
    refine l_x rfl (x_load rfl (ld_blk (S6.blk 1 rfl) Try.isAgg3 rfl)) ?_
    refine l_x rfl (x_lss rfl rfl) ?_
    refine l_x rfl (x_pick_f rfl rfl) ?_
    refine l_x rfl (x_mv rfl) ?_
    refine l_splitd (d := 18) rfl (fun hg18 => ?_) (fun hg18 => ?_)
    · skip
      refine l_pass rfl ?_
      refine l_pass rfl ?_
      refine l_pass rfl ?_
      refine l_x rfl (x_pick_t rfl rfl) ?_
      refine l_nil ?_
      refine r_true rfl ?_
      refine r_seq ?_
      refine r_region ?_
      refine l_x rfl (x_as rfl) ?_
      refine l_nil ?_
      refine r_ret (rs := [.tmp 4]) [_] Try.func113 rfl ⟨rfl, trivial⟩ ?_
      exact ⟨congrArg Value.bool (no_am (by omega)).symm, S6.le⟩
    · skip
      refine l_x rfl (x_fieldAddr rfl Try.runUnderlying75 rfl Try.sizeOf3 (by decide)) ?_
      refine l_x rfl (x_load rfl (ld_blk (S6.blk 1 rfl) Try.isAgg3 rfl)) ?_
      refine l_x rfl (x_gtr rfl rfl) ?_
      refine l_x rfl (x_pick_f rfl rfl) ?_
      refine l_nil ?_
      refine r_ifd rfl (fun hc22 => ?_) (fun hc22 => ?_)
      · skip
        refine r_seq ?_
        refine r_region ?_
        refine l_x rfl (x_as rfl) ?_
        refine l_nil ?_
        refine r_ret (rs := [.tmp 4]) [_] Try.func113 rfl ⟨rfl, trivial⟩ ?_
        exact ⟨congrArg Value.bool (no_am (by omega)).symm, S6.le⟩
      · skip
        have ham : 1 ≤ m ∧ m ≤ 1000000 := by omega
        refine r_skip ?_
        refine r_seq ?_
        refine r_region ?_
        refine l_x rfl (x_fieldAddr rfl Try.runUnderlying24 rfl Try.sizeOf3 (by decide)) ?_
        refine l_x rfl (x_load rfl (ld_blk (S6.blk 0 rfl) Try.isAgg3 rfl)) ?_
        refine l_make EB false S6 rfl Try.runUnderlying101 Try.sizeOf4 Try.typeInfo4 Try.zeroValue4 rfl rfl (congrArg (Value.int .i64) (Int.toNat_of_nonneg (by omega)).symm) (congrArg (Value.int .i64) (Int.toNat_of_nonneg (by omega)).symm) (Nat.le_refl _) (by unfold maxLen; omega) (by show _ * 1 ≤ _; omega) ?_
        intro v12 w9 hv13 S10 hl11
        refine l_x rfl (x_as rfl) ?_
        refine l_nil ?_
        refine r_seq ?_
        refine r_seq ?_
        refine r_region ?_
        refine l_x rfl (x_as rfl) ?_
        refine l_nil ?_
        refine r_block ?_
        refine r_loop (G := Nat) (fun k => l.length - k) (fun k => [(2, .pointer (some ⟨b4, 0, none⟩)), (3, .pointer (some ⟨b8, 0, none⟩)), (5, v12), (6, .int .i64 k)]) (fun k w' => (k ≤ l.length) ∧ (CirI arcs l (LdB arcs l) k) ∧ Own nob w w' [blk b4 [.int .i64 N, va] 24, blk b8 [hv h, .int .i64 m] 75, vec EB v12 (seenL N arcs l k)]) 0 ⟨rfl, rfl, rfl, rfl, trivial⟩ ⟨Nat.zero_le _, CirI.zero, (by rw [seenL_zero]; exact S10)⟩ ?_
        rintro k ρ w1 ⟨hi, hI, S1⟩ IH
        refine r_seq ?_
        refine r_seq ?_
        refine r_region ?_
        refine l_x rfl (x_mv rfl) ?_
        refine l_x rfl (x_fieldAddr rfl Try.runUnderlying75 rfl Try.sizeOf25 (by decide)) ?_
        refine l_x rfl (x_load rfl (ld_blk (S1.blk 1 rfl) Try.isAgg25 rfl)) ?_
        refine l_x rfl (x_len (hL.le S1.le) rfl Try.runUnderlying25) ?_
        refine l_x rfl (x_lss rfl rfl) ?_
        refine l_nil ?_
        refine r_ifd rfl (fun hc30 => ?_) (fun hc30 => ?_)
        · skip
          obtain ⟨i, hi9⟩ : ∃ i, l[k]? = some i := ⟨_, List.getElem?_eq_getElem (by omega)⟩
          refine r_skip ?_
          refine r_seq ?_
          refine r_block ?_
          refine r_seq ?_
          refine r_seq ?_
          refine r_drawR 17 Try.mixed (by kernel_rfl) ?_
          refine w_x rfl (fun w1 h1 => x_fieldAddr rfl Try.runUnderlying75 rfl Try.sizeOf25 (by decide)) ?_
          refine w_x rfl (fun w1 h1 => x_load rfl (ld_blk ((S1.step h1).blk 1 rfl) Try.isAgg25 rfl)) ?_
          refine w_x rfl (fun w1 h1 => x_mv rfl) ?_
          refine w_index EI rfl (hL.le S1.le) rfl rfl Try.runUnderlying25 Try.sizeOf3 (by omega) hi9 ?_
          intro b14 o15 hat16 row17
          refine w_x rfl (fun w1 h1 => x_load rfl (ld_cell Try.isAgg3 ((row17.le h1) 0 _ rfl))) ?_
          refine w_x rfl (fun w1 h1 => x_lss rfl rfl) ?_
          refine w_x rfl (fun w1 h1 => x_mv rfl) ?_
          refine w_splitd (d := 39) rfl (fun hg39 => ?_) (fun hg39 => ?_)
          · skip
            refine w_pass rfl ?_
            refine w_pass rfl ?_
            refine w_pass rfl ?_
            refine w_pass rfl ?_
            refine w_pass rfl ?_
            refine w_pass rfl ?_
            refine w_pass rfl ?_
            refine w_pass rfl ?_
            refine w_pass rfl ?_
            refine w_x rfl (fun w1 h1 => x_pick_t rfl rfl) ?_
            refine w_nil ?_
            intro w18 hl19
            have S20 := S1.step hl19
            refine l_nil ?_
            refine r_true rfl ?_
            refine r_seq ?_
            refine r_region ?_
            refine l_x rfl (x_as rfl) ?_
            refine l_nil ?_
            refine r_ret (rs := [.tmp 4]) [_] Try.func113 rfl ⟨rfl, trivial⟩ ?_
            exact ⟨congrArg Value.bool (no_ok hi9 (by omega)).symm, S20.le⟩
          · skip
            refine w_x rfl (fun w1 h1 => x_fieldAddr rfl Try.runUnderlying75 rfl Try.sizeOf25 (by decide)) ?_
            refine w_x rfl (fun w1 h1 => x_load rfl (ld_blk ((S1.step h1).blk 1 rfl) Try.isAgg25 rfl)) ?_
            refine w_x rfl (fun w1 h1 => x_mv rfl) ?_
            refine w_index EI rfl (hL.le S1.le) rfl rfl Try.runUnderlying25 Try.sizeOf3 (by omega) hi9 ?_
            intro b21 o22 hat23 row24
            refine w_x rfl (fun w1 h1 => x_load rfl (ld_cell Try.isAgg3 ((row24.le h1) 0 _ rfl))) ?_
            refine w_x rfl (fun w1 h1 => x_fieldAddr rfl Try.runUnderlying24 rfl Try.sizeOf22 (by decide)) ?_
            refine w_x rfl (fun w1 h1 => x_load rfl (ld_blk ((S1.step h1).blk 0 rfl) Try.isAgg22 rfl)) ?_
            refine w_x rfl (fun w1 h1 => x_len (hA.le (S1.step h1).le) rfl Try.runUnderlying22) ?_
            refine w_x rfl (fun w1 h1 => x_geq rfl rfl) ?_
            refine w_x rfl (fun w1 h1 => x_pick_f rfl rfl) ?_
            refine w_nil ?_
            intro w25 hl26
            have S27 := S1.step hl26
            refine l_nil ?_
            refine r_ifd rfl (fun hc49 => ?_) (fun hc49 => ?_)
            · skip
              refine r_seq ?_
              refine r_region ?_
              refine l_x rfl (x_as rfl) ?_
              refine l_nil ?_
              refine r_ret (rs := [.tmp 4]) [_] Try.func113 rfl ⟨rfl, trivial⟩ ?_
              exact ⟨congrArg Value.bool (no_ok hi9 (by omega)).symm, S27.le⟩
            · skip
              have hir : 0 ≤ i ∧ i < arcs.length := by omega
              obtain ⟨a, ha⟩ : ∃ a, arcs[i.toNat]? = some a := ⟨_, List.getElem?_eq_getElem (by omega)⟩
              have hoka := hV.at ha
              refine r_skip ?_
              refine r_seq ?_
              obtain ⟨i2, hi2⟩ : ∃ i2, l[bf l.length k]? = some i2 := ⟨_, List.getElem?_eq_getElem (bf_lt (by omega))⟩
              have hq2 : l[(((k : Int) + (l.length : Int) - 1) % (l.length : Int)).toNat]? = some i2 := by rw [bf_cast (by omega)]; exact hi2
              refine r_drawR 15 Try.mixed (by kernel_rfl) ?_
              refine w_x rfl (fun w1 h1 => x_fieldAddr rfl Try.runUnderlying75 rfl Try.sizeOf25 (by decide)) ?_
              refine w_x rfl (fun w1 h1 => x_load rfl (ld_blk ((S27.step h1).blk 1 rfl) Try.isAgg25 rfl)) ?_
              refine w_x rfl (fun w1 h1 => x_mv rfl) ?_
              refine w_x rfl (fun w1 h1 => x_fieldAddr rfl Try.runUnderlying75 rfl Try.sizeOf25 (by decide)) ?_
              refine w_x rfl (fun w1 h1 => x_load rfl (ld_blk ((S27.step h1).blk 1 rfl) Try.isAgg25 rfl)) ?_
              refine w_x rfl (fun w1 h1 => x_len (hL.le (S27.step h1).le) rfl Try.runUnderlying25) ?_
              refine w_x rfl (fun w1 h1 => x_add rfl rfl (by omega)) ?_
              refine w_x rfl (fun w1 h1 => x_sub rfl rfl (by omega)) ?_
              refine w_x rfl (fun w1 h1 => x_fieldAddr rfl Try.runUnderlying75 rfl Try.sizeOf25 (by decide)) ?_
              refine w_x rfl (fun w1 h1 => x_load rfl (ld_blk ((S27.step h1).blk 1 rfl) Try.isAgg25 rfl)) ?_
              refine w_x rfl (fun w1 h1 => x_len (hL.le (S27.step h1).le) rfl Try.runUnderlying25) ?_
              refine w_x rfl (fun w1 h1 => x_rem rfl rfl (by omega)) ?_
              refine w_index EI rfl (hL.le S27.le) rfl rfl Try.runUnderlying25 Try.sizeOf3 (Int.emod_nonneg _ (by omega)) hq2 ?_
              intro b28 o29 hat30 row31
              refine w_x rfl (fun w1 h1 => x_load rfl (ld_cell Try.isAgg3 ((row31.le h1) 0 _ rfl))) ?_
              refine w_x rfl (fun w1 h1 => x_as rfl) ?_
              refine w_nil ?_
              intro w32 hl33
              have S34 := S27.step hl33
              refine l_nil ?_
              refine r_seq ?_
              refine r_seq ?_
              refine r_region ?_
              refine l_x rfl (x_mv rfl) ?_
              refine l_x rfl (x_lss rfl rfl) ?_
              refine l_x rfl (x_mv rfl) ?_
              refine l_splitd (d := 66) rfl (fun hg66 => ?_) (fun hg66 => ?_)
              · skip
                refine l_pass rfl ?_
                refine l_pass rfl ?_
                refine l_pass rfl ?_
                refine l_pass rfl ?_
                refine l_pass rfl ?_
                refine l_x rfl (x_pick_t rfl rfl) ?_
                refine l_nil ?_
                refine r_true rfl ?_
                refine r_seq ?_
                refine r_region ?_
                refine l_x rfl (x_as rfl) ?_
                refine l_nil ?_
                refine r_ret (rs := [.tmp 4]) [_] Try.func113 rfl ⟨rfl, trivial⟩ ?_
                exact ⟨congrArg Value.bool (no_ok hi2 (by omega)).symm, S34.le⟩
              · skip
                refine l_x rfl (x_mv rfl) ?_
                refine l_x rfl (x_fieldAddr rfl Try.runUnderlying24 rfl Try.sizeOf22 (by decide)) ?_
                refine l_x rfl (x_load rfl (ld_blk (S34.blk 0 rfl) Try.isAgg22 rfl)) ?_
                refine l_x rfl (x_len (hA.le S34.le) rfl Try.runUnderlying22) ?_
                refine l_x rfl (x_geq rfl rfl) ?_
                refine l_x rfl (x_pick_f rfl rfl) ?_
                refine l_nil ?_
                refine r_ifd rfl (fun hc72 => ?_) (fun hc72 => ?_)
                · skip
                  refine r_seq ?_
                  refine r_region ?_
                  refine l_x rfl (x_as rfl) ?_
                  refine l_nil ?_
                  refine r_ret (rs := [.tmp 4]) [_] Try.func113 rfl ⟨rfl, trivial⟩ ?_
                  exact ⟨congrArg Value.bool (no_ok hi2 (by omega)).symm, S34.le⟩
                · skip
                  have hir2 : 0 ≤ i2 ∧ i2 < arcs.length := by omega
                  obtain ⟨b, hb⟩ : ∃ b, arcs[i2.toNat]? = some b := ⟨_, List.getElem?_eq_getElem (by omega)⟩
                  refine r_skip ?_
                  refine r_seq ?_
                  refine r_drawE 11 (yng w32) Try.mixed (by kernel_rfl) ?_
                  intro w35 hl36
                  have S37 := S34.step hl36
                  have hy38 : Keep (yng w32) w32 w35 := .of_le hl36
                  refine e_exact 0 _ (by kernel_rfl) rfl rfl (by kernel_rfl) rfl (ex_x rfl (fun w1 h1 => x_fieldAddr rfl Try.runUnderlying24 rfl Try.sizeOf22 (by decide))) ?_
                  refine e_exact 1 _ (by kernel_rfl) rfl rfl (by kernel_rfl) rfl (ex_x rfl (fun w1 h1 => x_load rfl (ld_blk ((S34.yng (hy38.trans h1)).blk 0 rfl) Try.isAgg22 rfl))) ?_
                  refine e_exact 2 _ (by kernel_rfl) rfl rfl (by kernel_rfl) rfl (ex_x rfl (fun w1 h1 => x_fieldAddr rfl Try.runUnderlying75 rfl Try.sizeOf25 (by decide))) ?_
                  refine e_exact 3 _ (by kernel_rfl) rfl rfl (by kernel_rfl) rfl (ex_x rfl (fun w1 h1 => x_load rfl (ld_blk ((S34.yng (hy38.trans h1)).blk 1 rfl) Try.isAgg25 rfl))) ?_
                  refine e_exact 4 _ (by kernel_rfl) rfl rfl (by kernel_rfl) rfl (ex_x rfl (fun w1 h1 => x_mv rfl)) ?_
                  refine e_index EI 5 (by kernel_rfl) rfl rfl (by kernel_rfl) rfl rfl (hL.le S37.le) rfl rfl Try.runUnderlying25 Try.sizeOf3 (by omega) hi9 ?_
                  intro b39 o40 hat41
                  refine e_exact 6 _ (by kernel_rfl) rfl rfl (by kernel_rfl) rfl (ex_x rfl (fun w1 h1 => x_load rfl (ld_cell Try.isAgg3 ((rd_row (hL.le (S34.yng (hy38.trans h1)).le) hat41 hi9) 0 _ rfl)))) ?_
                  refine e_index EA 7 (by kernel_rfl) rfl rfl (by kernel_rfl) rfl rfl (hA.le S37.le) rfl rfl Try.runUnderlying22 Try.sizeOf39 (by omega) ha ?_
                  intro b42 o43 hat44
                  refine e_exact 8 _ (by kernel_rfl) rfl rfl (by kernel_rfl) rfl (ex_x rfl (fun w1 h1 => x_load rfl (ld_row Try.isAgg39 Try.sizeOf39 rfl (rd_row (hA.le (S34.yng (hy38.trans h1)).le) hat44 ha)))) ?_
                  refine e_next [9] (by kernel_rfl) (by kernel_rfl) ⟨⟨_, _, rfl, rfl, ?_⟩, trivial⟩
                  refine s_allocY S37 rfl Try.zeroValue39 rfl ?_
                  intro b48 w45 S46 hl47 hb49
                  refine ⟨.of_le hl47, ?_⟩
                  have hy50 : Keep (yng w32) w32 w45 := hy38.trans (Keep.of_le hl47)
                  refine e_next [10] (by kernel_rfl) (by kernel_rfl) ⟨⟨_, _, rfl, rfl, ?_⟩, trivial⟩
                  refine s_stores (vs := [_, _, _, _, _, _]) S46 3 rfl rfl rfl rfl (ones_cons rfl (ones_cons rfl (ones_cons rfl (ones_cons rfl (ones_cons rfl (ones_cons rfl ones_nil)))))) Try.sizeOf39 (by first | exact Nat.le_refl _ | simp) (splice_all rfl) ?_
                  intro w51 S52 hk53
                  refine ⟨(yng_blk hy38 hb49 hk53), ?_⟩
                  have hy54 : Keep (yng w32) w32 w51 := hy50.trans ((yng_blk hy38 hb49 hk53))
                  refine e_done (by kernel_rfl) ?_
                  refine l_nil ?_
                  refine r_seq ?_
                  refine r_seq ?_
                  refine r_drawR 16 Try.mixed (by kernel_rfl) ?_
                  refine w_x rfl (fun w1 h1 => x_fieldAddr rfl Try.runUnderlying24 rfl Try.sizeOf22 (by decide)) ?_
                  refine w_x rfl (fun w1 h1 => x_load rfl (ld_blk ((S52.step h1).blk 0 rfl) Try.isAgg22 rfl)) ?_
                  refine w_x rfl (fun w1 h1 => x_mv rfl) ?_
                  refine w_index EA rfl (hA.le S52.le) rfl rfl Try.runUnderlying22 Try.sizeOf39 (by omega) hb ?_
                  intro b55 o56 hat57 row58
                  refine w_x rfl (fun w1 h1 => x_fieldAddr rfl Try.runUnderlying39 rfl Try.sizeOf3 (by decide)) ?_
                  refine w_x rfl (fun w1 h1 => x_load rfl (ld_cell Try.isAgg3 ((row58.le h1) 1 _ rfl))) ?_
                  refine w_x rfl (fun w1 h1 => x_fieldAddr rfl Try.runUnderlying39 rfl Try.sizeOf3 (by decide)) ?_
                  refine w_x rfl (fun w1 h1 => x_load rfl (ld_blk ((S52.step h1).blk 3 rfl) Try.isAgg3 rfl)) ?_
                  refine w_x rfl (fun w1 h1 => x_neq rfl rfl) ?_
                  refine w_x rfl (fun w1 h1 => x_mv rfl) ?_
                  refine w_splitd (d := 91) rfl (fun hg91 => ?_) (fun hg91 => ?_)
                  · skip
                    refine w_pass rfl ?_
                    refine w_pass rfl ?_
                    refine w_pass rfl ?_
                    refine w_pass rfl ?_
                    refine w_pass rfl ?_
                    refine w_x rfl (fun w1 h1 => x_pick_t rfl rfl) ?_
                    refine w_nil ?_
                    intro w59 hl60
                    have S61 := S52.step hl60
                    refine l_nil ?_
                    refine r_true rfl ?_
                    refine r_seq ?_
                    refine r_region ?_
                    refine l_x rfl (x_as rfl) ?_
                    refine l_nil ?_
                    refine r_ret (rs := [.tmp 4]) [_] Try.func113 rfl ⟨rfl, trivial⟩ ?_
                    exact ⟨congrArg Value.bool (no_leadB hi2 hi9 hb ha hg91).symm, S61.le⟩
                  · skip
                    refine w_x rfl (fun w1 h1 => x_mv rfl) ?_
                    refine w_x rfl (fun w1 h1 => x_fieldAddr rfl Try.runUnderlying39 rfl Try.sizeOf3 (by decide)) ?_
                    refine w_x rfl (fun w1 h1 => x_load rfl (ld_blk ((S52.step h1).blk 3 rfl) Try.isAgg3 rfl)) ?_
                    refine w_index EB rfl (vec_rd (S52.at 2 rfl)) rfl rfl Try.runUnderlying101 Try.sizeOf4 (by omega) (seenL_get ⟨by omega, by omega⟩) ?_
                    intro b62 o63 hat64 row65
                    refine w_x rfl (fun w1 h1 => x_load rfl (ld_cell Try.isAgg4 ((row65.le h1) 0 _ rfl))) ?_
                    refine w_x rfl (fun w1 h1 => x_pick_f rfl rfl) ?_
                    refine w_nil ?_
                    intro w66 hl67
                    have S68 := S52.step hl67
                    refine l_nil ?_
                    refine r_if rfl (fun hc97 => ?_) (fun hc97 => ?_)
                    · skip
                      refine r_seq ?_
                      refine r_region ?_
                      refine l_x rfl (x_as rfl) ?_
                      refine l_nil ?_
                      refine r_ret (rs := [.tmp 4]) [_] Try.func113 rfl ⟨rfl, trivial⟩ ?_
                      exact ⟨congrArg Value.bool (no_once hi9 ha hc97).symm, S68.le⟩
                    · skip
                      refine r_skip ?_
                      refine r_region ?_
                      refine l_x rfl (x_mv rfl) ?_
                      refine l_x rfl (x_fieldAddr rfl Try.runUnderlying39 rfl Try.sizeOf3 (by decide)) ?_
                      refine l_x rfl (x_load rfl (ld_blk (S68.blk 3 rfl) Try.isAgg3 rfl)) ?_
                      refine l_index EB rfl (vec_rd (S68.at 2 rfl)) rfl rfl Try.runUnderlying101 Try.sizeOf4 (by omega) (seenL_get ⟨by omega, by omega⟩) ?_
                      intro b69 o70 hat71 row72
                      refine l_storevb (f := 0) S68 2 rfl rfl hat71 rfl rfl Try.sizeOf4 (seenL_get ⟨by omega, by omega⟩) (by decide) rfl ?_
                      intro w73 S74 hk75
                      refine l_nil ?_
                      refine r_inBlock ?_
                      refine r_region ?_
                      refine l_x rfl (x_mv rfl) ?_
                      refine l_x rfl (x_add rfl rfl (by omega)) ?_
                      refine l_x rfl (x_as rfl) ?_
                      refine l_nil ?_
                      exact IH (k + 1) _ _ (by omega) ⟨rfl, rfl, rfl, rfl, trivial⟩ ⟨by omega, hI.step hi9 hir ha (leads_of hi2 hi9 hb ha (Decidable.not_not.1 hg91)) hc97, (by have hS := S74.take 3; rw [seenL_step hi9 ha (by omega)] at hS; exact hS)⟩
        · skip
          have hie : k = l.length := by omega
          subst hie
          refine r_exit rfl ?_
          refine r_seq ?_
          refine r_region ?_
          refine l_x rfl (x_as rfl) ?_
          refine l_nil ?_
          refine r_ret (rs := [.tmp 4]) [_] Try.func113 rfl ⟨rfl, trivial⟩ ?_
          exact ⟨congrArg Value.bool (hI.doneB (by omega) ham).symm, S1.le⟩

theorem all_step {arcs : List Arc} {zs : List Crc} {i : Nat} {c : Crc} (h : ∀ c ∈ zs.take i, Cir arcs c) (hc : zs[i]? = some c) (hk : Cir arcs c) : ∀ c ∈ zs.take (i + 1), Cir arcs c := by
  intro d hd
  rw [List.take_add_one, hc] at hd
  rcases List.mem_append.1 hd with hd | hd
  · exact h d hd
  · simp at hd; subst hd; exact hk
theorem small_step {f : Nat → Int} {i : Nat} (h : ∀ j, j < i → ¬ 1000000 < f j) (hi : ¬ 1000000 < f i) : ∀ j, j < i + 1 → ¬ 1000000 < f j := by
  intro j hj
  rcases Nat.lt_or_ge j i with hlt | hge
  · exact h j hlt
  · have : j = i := by omega
    subst this; exact hi

set_option maxHeartbeats 4000000 in
/-- couchant/couchantref06.FromCircles. -/
theorem c_rFromCircles (N : Int) (va : Value) (arcs : List Arc) (vl : Value) (ds : List (Hd × Int)) (zs : List Crc) (hm : ∀ c ∈ zs, c.1.length ≤ 4611686018427387903) (hmd : ds.length ≤ 4611686018427387903) (w : World) (hA : Rd EA w va arcs) (hC : CsR 3 75 w vl ds zs) :
    Cl Try.prog 58 #[.agg #[.int .i64 N, va], vl] w fun v w' => ∃ s l e, v = .tuple #[s, .int .i64 e] ∧ New w w' (vec EI s l) ∧ Le w w' ∧ FrcR N arcs zs l e := by
  refine fn_of_run (args := [_, _]) 92 Try.func58 rfl rfl rfl fun cs => ?_
  have S := Own.start (X := nob) w
  refine r_seq ?_
  refine r_region ?_
  refine l_box S rfl rfl ?_
  intro b4 w1 S2 hl3
  refine l_x rfl (x_as rfl) ?_
  refine l_x rfl (x_as rfl) ?_
  refine l_nil ?_
  refine r_seq ?_
  refine r_region ?_
  refine l_x rfl (x_load rfl (ld_blks (S2.blk 0 rfl) Try.isAgg24 Try.sizeOf24 rfl rfl)) ?_
  refine l_call [] [] [_] rfl rfl Try.call37 rfl (c_rCheck _ _ _ _ (hA.le S2.le)) ?_
  rintro _ w5 ⟨rfl, hl7⟩
  have S6 := S2.step hl7
  refine l_x rfl (x_as rfl) ?_
  refine l_nil ?_
  refine r_seq ?_
  refine r_seq ?_
  refine r_region ?_
  refine l_x rfl (x_mv rfl) ?_
  refine l_x rfl (x_neq rfl rfl) ?_
  refine l_nil ?_
  refine r_ifd rfl (fun hc15 => ?_) (fun hc15 => ?_)
  · skip
    refine r_seq ?_
    refine r_region ?_
    refine l_x rfl (x_mv rfl) ?_
    refine l_x rfl (x_as rfl) ?_
    refine l_x rfl (x_as rfl) ?_
    refine l_nil ?_
    refine r_ret (rs := [.tmp 4, .tmp 5]) [_, _] Try.func58 rfl ⟨rfl, rfl, trivial⟩ ?_
    exact ⟨_, _, _, rfl, New.nilvec .., S6.le, .bad hc15⟩
  · skip
    have h0 := Decidable.not_not.1 hc15
    have hV := chk_zero.1 h0
    have hLx := hV.len
    refine r_skip ?_
    refine r_seq ?_
    refine r_seq ?_
    refine r_region ?_
    refine l_x rfl (x_mv rfl) ?_
    refine l_x rfl (x_len (hC.rd.le S6.le) rfl Try.runUnderlying73) ?_
    refine l_x rfl (x_gtr rfl rfl) ?_
    refine l_nil ?_
    refine r_ifd rfl (fun hc19 => ?_) (fun hc19 => ?_)
    · skip
      refine r_seq ?_
      refine r_region ?_
      refine l_x rfl (x_as rfl) ?_
      refine l_x rfl (x_as rfl) ?_
      refine l_nil ?_
      refine r_ret (rs := [.tmp 4, .tmp 5]) [_, _] Try.func58 rfl ⟨rfl, rfl, trivial⟩ ?_
      exact ⟨_, _, _, rfl, New.nilvec .., S6.le, .many h0 (by have := hC.len; omega)⟩
    · skip
      have hCl := hC.len
      refine r_skip ?_
      refine r_seq ?_
      refine r_region ?_
      refine l_x rfl (x_fieldAddr rfl Try.runUnderlying24 rfl Try.sizeOf22 (by decide)) ?_
      refine l_x rfl (x_load rfl (ld_blk (S6.blk 0 rfl) Try.isAgg22 rfl)) ?_
      refine l_x rfl (x_len (hA.le S6.le) rfl Try.runUnderlying22) ?_
      refine l_make EI 0 S6 rfl Try.runUnderlying25 Try.sizeOf3 Try.typeInfo3 Try.zeroValue3 rfl rfl rfl rfl (Nat.le_refl _) (by unfold maxLen; omega) (by show _ * 8 ≤ _; omega) ?_
      intro v11 w8 hv12 S9 hl10
      refine l_x rfl (x_as rfl) ?_
      refine l_nil ?_
      refine r_seq ?_
      refine r_seq ?_
      refine r_region ?_
      refine l_x rfl (x_as rfl) ?_
      refine l_nil ?_
      refine r_block ?_
      refine r_loop (G := Nat) (fun i => ds.length - i) (fun i => [(2, .pointer (some ⟨b4, 0, none⟩)), (1, vl), (7, v11), (8, .int .i64 i)]) (fun i w' => (i ≤ ds.length) ∧ (∀ c ∈ zs.take i, Cir arcs c) ∧ Own nob w w' [blk b4 [.int .i64 N, va] 24, vec EI v11 (List.replicate arcs.length 0)]) 0 ⟨rfl, rfl, rfl, rfl, trivial⟩ ⟨Nat.zero_le _, by simp, (S9.take 2)⟩ ?_
      rintro i ρ w1a ⟨hi, hok, S1a⟩ IHa
      refine r_seq ?_
      refine r_seq ?_
      refine r_region ?_
      refine l_x rfl (x_mv rfl) ?_
      refine l_x rfl (x_mv rfl) ?_
      refine l_x rfl (x_len (hC.rd.le S1a.le) rfl Try.runUnderlying73) ?_
      refine l_x rfl (x_lss rfl rfl) ?_
      refine l_nil ?_
      refine r_ifd rfl (fun hc27 => ?_) (fun hc27 => ?_)
      · skip
        obtain ⟨⟨dh, dm⟩, hdd⟩ : ∃ d, ds[i]? = some d := ⟨_, List.getElem?_eq_getElem (by omega)⟩
        obtain ⟨c, hcs⟩ : ∃ c, zs[i]? = some c := ⟨_, List.getElem?_eq_getElem (by omega)⟩
        obtain ⟨hE1, hE2⟩ := hC.each i _ _ hdd hcs
        simp only at hE1 hE2
        subst hE2
        have hcl := hm c (List.mem_of_getElem? hcs)
        refine r_skip ?_
        refine r_seq ?_
        refine r_block ?_
        refine r_seq ?_
        refine r_drawR 7 Try.mixed (by kernel_rfl) ?_
        refine w_x rfl (fun w1 h1 => x_load rfl (ld_blks ((S1a.step h1).blk 0 rfl) Try.isAgg24 Try.sizeOf24 rfl rfl)) ?_
        refine w_x rfl (fun w1 h1 => x_mv rfl) ?_
        refine w_x rfl (fun w1 h1 => x_mv rfl) ?_
        refine w_index EC rfl (hC.rd.le S1a.le) rfl rfl Try.runUnderlying73 Try.sizeOf75 (by omega) hdd ?_
        intro b13 o14 hat15 row16
        refine w_x rfl (fun w1 h1 => x_load rfl (ld_row Try.isAgg75 Try.sizeOf75 rfl (row16.le h1))) ?_
        refine wd_call [] [] [_, _] rfl rfl Try.call113 rfl (fun w1 h1 => c_rcircle _ _ _ _ _ _ hV hcl _ (hA.le (S1a.step h1).le) (hE1.le (S1a.step h1).le)) ?_
        refine w_x rfl (fun w1 h1 => x_not rfl) ?_
        refine w_nil ?_
        intro w17 hl18
        have S19 := S1a.step hl18
        refine l_nil ?_
        refine r_if rfl (fun hc36 => ?_) (fun hc36 => ?_)
        · skip
          refine r_seq ?_
          refine r_region ?_
          refine l_x rfl (x_as rfl) ?_
          refine l_x rfl (x_as rfl) ?_
          refine l_nil ?_
          refine r_ret (rs := [.tmp 4, .tmp 5]) [_, _] Try.func58 rfl ⟨rfl, rfl, trivial⟩ ?_
          exact ⟨_, _, _, rfl, New.nilvec .., S19.le, .arg h0 (by have := hC.len; omega) (List.mem_of_getElem? hcs) (fun hh => by rw [cirB_iff.2 hh] at hc36; cases hc36)⟩
        · skip
          have hcc : Cir arcs c := cirB_iff.1 (by simpa using hc36)
          refine r_skip ?_
          refine r_inBlock ?_
          refine r_region ?_
          refine l_x rfl (x_mv rfl) ?_
          refine l_x rfl (x_add rfl rfl (by omega)) ?_
          refine l_x rfl (x_as rfl) ?_
          refine l_nil ?_
          exact IHa (i + 1) _ _ (by omega) ⟨rfl, rfl, rfl, rfl, trivial⟩ ⟨by omega, all_step hok hcs hcc, (S19.take 2)⟩
      · skip
        have hie : i = ds.length := by omega
        subst hie
        have hct : zs.take ds.length = zs := List.take_of_length_le (by omega)
        rw [hct] at hok
        have hall := hok
        refine r_exit rfl ?_
        refine r_seq ?_
        refine r_seq ?_
        refine r_region ?_
        refine l_x rfl (x_as rfl) ?_
        refine l_nil ?_
        refine r_block ?_
        refine r_loop (G := Nat) (fun i => ds.length - i) (fun i => [(1, vl), (7, v11), (9, .int .i64 i)]) (fun i w' => (i ≤ ds.length) ∧ Own nob w w' [blk b4 [.int .i64 N, va] 24, vec EI v11 (tabL arcs.length (addAll (zs.take i)))]) 0 ⟨rfl, rfl, rfl, trivial⟩ ⟨Nat.zero_le _, (by rw [List.take_zero, show addAll [] = (fun _ => 0) from rfl, tabL_zero]; exact S1a)⟩ ?_
        rintro i ρ w1b ⟨hi, S1b⟩ IHb
        refine r_seq ?_
        refine r_seq ?_
        refine r_region ?_
        refine l_x rfl (x_mv rfl) ?_
        refine l_x rfl (x_mv rfl) ?_
        refine l_x rfl (x_len (hC.rd.le S1b.le) rfl Try.runUnderlying73) ?_
        refine l_x rfl (x_lss rfl rfl) ?_
        refine l_nil ?_
        refine r_ifd rfl (fun hc40 => ?_) (fun hc40 => ?_)
        · skip
          obtain ⟨⟨dh, dm⟩, hdd⟩ : ∃ d, ds[i]? = some d := ⟨_, List.getElem?_eq_getElem (by omega)⟩
          obtain ⟨c, hcs⟩ : ∃ c, zs[i]? = some c := ⟨_, List.getElem?_eq_getElem (by omega)⟩
          obtain ⟨hE1, hE2⟩ := hC.each i _ _ hdd hcs
          simp only at hE1 hE2
          subst hE2
          have hcc := hall c (List.mem_of_getElem? hcs)
          have hcl := hm c (List.mem_of_getElem? hcs)
          refine r_skip ?_
          refine r_seq ?_
          refine r_block ?_
          refine r_seq ?_
          refine r_region ?_
          refine l_x rfl (x_as rfl) ?_
          refine l_nil ?_
          refine r_block ?_
          refine r_loop (G := Nat) (fun k => c.1.length - k) (fun k => [(1, vl), (7, v11), (9, .int .i64 i), (10, .int .i64 k)]) (fun k w' => (k ≤ c.1.length) ∧ Own nob w w' [blk b4 [.int .i64 N, va] 24, vec EI v11 (tabL arcs.length (add1 c (addAll (zs.take i)) k))]) 0 ⟨rfl, rfl, rfl, rfl, trivial⟩ ⟨Nat.zero_le _, (by rw [add1_zero]; exact S1b)⟩ ?_
          rintro k ρ w1c ⟨hk, S1c⟩ IHc
          refine r_seq ?_
          refine r_seq ?_
          refine r_region ?_
          refine l_x rfl (x_mv rfl) ?_
          refine l_x rfl (x_mv rfl) ?_
          refine l_x rfl (x_mv rfl) ?_
          refine l_index EC rfl (hC.rd.le S1c.le) rfl rfl Try.runUnderlying73 Try.sizeOf75 (by omega) hdd ?_
          intro b20 o21 hat22 row23
          refine l_x rfl (x_fieldAddr rfl Try.runUnderlying75 rfl Try.sizeOf25 (by decide)) ?_
          refine l_x rfl (x_load rfl (ld_cell Try.isAgg25 (row23 0 _ rfl))) ?_
          refine l_x rfl (x_len (hE1.le S1c.le) rfl Try.runUnderlying25) ?_
          refine l_x rfl (x_lss rfl rfl) ?_
          refine l_nil ?_
          refine r_ifd rfl (fun hc50 => ?_) (fun hc50 => ?_)
          · skip
            obtain ⟨q, hq⟩ : ∃ q, c.1[k]? = some q := ⟨_, List.getElem?_eq_getElem (by omega)⟩
            have hqr := hcc.ok q (List.mem_of_getElem? hq)
            have hbd := add1_bd (addAll_bd hall i (by omega)) hcc.am k q.toNat
            have ham := hcc.am
            refine r_skip ?_
            refine r_seq ?_
            refine r_block ?_
            refine r_drawR 27 Try.mixed (by kernel_rfl) ?_
            refine w_x rfl (fun w1 h1 => x_mv rfl) ?_
            refine w_x rfl (fun w1 h1 => x_mv rfl) ?_
            refine w_x rfl (fun w1 h1 => x_mv rfl) ?_
            refine w_index EC rfl (hC.rd.le S1c.le) rfl rfl Try.runUnderlying73 Try.sizeOf75 (by omega) hdd ?_
            intro b24 o25 hat26 row27
            refine w_x rfl (fun w1 h1 => x_fieldAddr rfl Try.runUnderlying75 rfl Try.sizeOf25 (by decide)) ?_
            refine w_x rfl (fun w1 h1 => x_load rfl (ld_cell Try.isAgg25 ((row27.le h1) 0 _ rfl))) ?_
            refine w_x rfl (fun w1 h1 => x_mv rfl) ?_
            refine w_index EI rfl (hE1.le S1c.le) rfl rfl Try.runUnderlying25 Try.sizeOf3 (by omega) hq ?_
            intro b28 o29 hat30 row31
            refine w_x rfl (fun w1 h1 => x_load rfl (ld_cell Try.isAgg3 ((row31.le h1) 0 _ rfl))) ?_
            refine w_x rfl (fun w1 h1 => x_mv rfl) ?_
            refine w_x rfl (fun w1 h1 => x_mv rfl) ?_
            refine w_x rfl (fun w1 h1 => x_mv rfl) ?_
            refine w_index EC rfl (hC.rd.le S1c.le) rfl rfl Try.runUnderlying73 Try.sizeOf75 (by omega) hdd ?_
            intro b32 o33 hat34 row35
            refine w_x rfl (fun w1 h1 => x_fieldAddr rfl Try.runUnderlying75 rfl Try.sizeOf25 (by decide)) ?_
            refine w_x rfl (fun w1 h1 => x_load rfl (ld_cell Try.isAgg25 ((row35.le h1) 0 _ rfl))) ?_
            refine w_x rfl (fun w1 h1 => x_mv rfl) ?_
            refine w_index EI rfl (hE1.le S1c.le) rfl rfl Try.runUnderlying25 Try.sizeOf3 (by omega) hq ?_
            intro b36 o37 hat38 row39
            refine w_x rfl (fun w1 h1 => x_load rfl (ld_cell Try.isAgg3 ((row39.le h1) 0 _ rfl))) ?_
            refine w_index EI rfl (vec_rd (S1c.at 1 rfl)) rfl rfl Try.runUnderlying25 Try.sizeOf3 (by omega) (tabL_get (by omega)) ?_
            intro b40 o41 hat42 row43
            refine w_x rfl (fun w1 h1 => x_load rfl (ld_cell Try.isAgg3 ((row43.le h1) 0 _ rfl))) ?_
            refine w_x rfl (fun w1 h1 => x_mv rfl) ?_
            refine w_x rfl (fun w1 h1 => x_mv rfl) ?_
            refine w_index EC rfl (hC.rd.le S1c.le) rfl rfl Try.runUnderlying73 Try.sizeOf75 (by omega) hdd ?_
            intro b44 o45 hat46 row47
            refine w_x rfl (fun w1 h1 => x_fieldAddr rfl Try.runUnderlying75 rfl Try.sizeOf3 (by decide)) ?_
            refine w_x rfl (fun w1 h1 => x_load rfl (ld_cell Try.isAgg3 ((row47.le h1) 1 _ rfl))) ?_
            refine w_x rfl (fun w1 h1 => x_add rfl rfl (by omega)) ?_
            refine w_index EI rfl (vec_rd (S1c.at 1 rfl)) rfl rfl Try.runUnderlying25 Try.sizeOf3 (by omega) (tabL_get (by omega)) ?_
            intro b48 o49 hat50 row51
            refine w_nil ?_
            intro w52 hl53
            have S54 := S1c.step hl53
            refine l_storevi (f := 0) S54 1 rfl rfl hat50 rfl rfl Try.sizeOf3 (tabL_get (by omega)) (by decide) rfl ?_
            intro w55 S56 hk57
            refine l_nil ?_
            refine r_inBlock ?_
            refine r_region ?_
            refine l_x rfl (x_mv rfl) ?_
            refine l_x rfl (x_add rfl rfl (by omega)) ?_
            refine l_x rfl (x_as rfl) ?_
            refine l_nil ?_
            exact IHc (k + 1) _ _ (by omega) ⟨rfl, rfl, rfl, rfl, trivial⟩ ⟨by omega, (by have hS := S56; rw [tabL_set, add1_step hcc hq] at hS; exact hS)⟩
          · skip
            have hke : k = c.1.length := by omega
            subst hke
            refine r_exit rfl ?_
            refine r_inBlock ?_
            refine r_region ?_
            refine l_x rfl (x_mv rfl) ?_
            refine l_x rfl (x_add rfl rfl (by omega)) ?_
            refine l_x rfl (x_as rfl) ?_
            refine l_nil ?_
            exact IHb (i + 1) _ _ (by omega) ⟨rfl, rfl, rfl, trivial⟩ ⟨by omega, (by rw [addAll_take hcs]; exact S1c.take 2)⟩
        · skip
          have hie : i = ds.length := by omega
          subst hie
          have hct : zs.take ds.length = zs := List.take_of_length_le (by omega)
          rw [hct] at S1b
          refine r_exit rfl ?_
          refine r_seq ?_
          refine r_seq ?_
          refine r_region ?_
          refine l_x rfl (x_as rfl) ?_
          refine l_nil ?_
          refine r_block ?_
          refine r_loop (G := Nat) (fun i => arcs.length - i) (fun i => [(7, v11), (11, .int .i64 i)]) (fun i w' => (i ≤ arcs.length) ∧ (∀ j, j < i → ¬ 1000000 < addAll zs j) ∧ Own nob w w' [blk b4 [.int .i64 N, va] 24, vec EI v11 (tabL arcs.length (addAll zs))]) 0 ⟨rfl, rfl, trivial⟩ ⟨Nat.zero_le _, fun j h => absurd h (Nat.not_lt_zero j), S1b⟩ ?_
          rintro i ρ w1d ⟨hi, hsm, S1d⟩ IHd
          refine r_seq ?_
          refine r_seq ?_
          refine r_region ?_
          refine l_x rfl (x_mv rfl) ?_
          refine l_x rfl (x_mv rfl) ?_
          refine l_x rfl (x_len (vec_rd (S1d.at 1 rfl)) rfl Try.runUnderlying25) ?_
          refine l_x rfl (x_lss rfl rfl) ?_
          refine l_nil ?_
          refine r_ifd rfl (fun hc83 => ?_) (fun hc83 => ?_)
          · skip
            have htl := tabL_length arcs.length (addAll zs)
            have hil : i < arcs.length := by omega
            refine r_skip ?_
            refine r_seq ?_
            refine r_block ?_
            refine r_seq ?_
            refine r_region ?_
            refine l_x rfl (x_mv rfl) ?_
            refine l_x rfl (x_mv rfl) ?_
            refine l_index EI rfl (vec_rd (S1d.at 1 rfl)) rfl rfl Try.runUnderlying25 Try.sizeOf3 (by omega) (tabL_get (by omega)) ?_
            intro b58 o59 hat60 row61
            refine l_x rfl (x_load rfl (ld_cell Try.isAgg3 (row61 0 _ rfl))) ?_
            refine l_x rfl (x_gtr rfl rfl) ?_
            refine l_nil ?_
            refine r_ifd rfl (fun hc90 => ?_) (fun hc90 => ?_)
            · skip
              refine r_seq ?_
              refine r_region ?_
              refine l_x rfl (x_as rfl) ?_
              refine l_x rfl (x_as rfl) ?_
              refine l_nil ?_
              refine r_ret (rs := [.tmp 4, .tmp 5]) [_, _] Try.func58 rfl ⟨rfl, rfl, trivial⟩ ?_
              exact ⟨_, _, _, rfl, New.nilvec .., S1d.le, .big h0 (by have := hC.len; omega) hall (by omega : i < arcs.length) hc90⟩
            · skip
              refine r_skip ?_
              refine r_inBlock ?_
              refine r_region ?_
              refine l_x rfl (x_mv rfl) ?_
              refine l_x rfl (x_add rfl rfl (by omega)) ?_
              refine l_x rfl (x_as rfl) ?_
              refine l_nil ?_
              exact IHd (i + 1) _ _ (by omega) ⟨rfl, rfl, trivial⟩ ⟨by omega, small_step hsm hc90, S1d⟩
          · skip
            have htl := tabL_length arcs.length (addAll zs)
            have hie : i = arcs.length := by omega
            subst hie
            refine r_exit rfl ?_
            refine r_seq ?_
            refine r_region ?_
            refine l_x rfl (x_mv rfl) ?_
            refine l_x rfl (x_as rfl) ?_
            refine l_x rfl (x_as rfl) ?_
            refine l_nil ?_
            refine r_ret (rs := [.tmp 4, .tmp 5]) [_, _] Try.func58 rfl ⟨rfl, rfl, trivial⟩ ?_
            exact ⟨_, _, _, rfl, S1d.new 1 rfl, S1d.le, .yes h0 (by have := hC.len; omega) hall hsm⟩

end Go.Proofs
