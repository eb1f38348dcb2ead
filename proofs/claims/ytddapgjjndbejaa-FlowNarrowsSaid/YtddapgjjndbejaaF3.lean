/-
  Contracts of functions of the program: each by symbolic execution of its text.
-/
import Derived.Test.YtddapgjjndbejaaF2
namespace Go.Proofs
open Go Go.Vk Go.Vk.Flow

/-- couchant/flow.Kept$1. -/
theorem c_Kept1 (N : Int) (va : Value) (arcs : List Arc) (vx : Value) (x : List Int) (b0 b1 : Nat) (hmx : x.length ≤ 9223372036854775807) (w : World) (h0 : Blk w b0 [.int .i64 N, va] 24) (h1 : Blk w b1 [vx] 25)  (hA : Rd EA w va arcs) (Hx : Rd EI w vx x) :
    Cl Try.prog 66 #[.pointer (some ⟨b0, 0, none⟩), .pointer (some ⟨b1, 0, none⟩)] w fun v w' => v = .bool (row x arcs.length 0 1000000) ∧ Le w w' := by
  refine fn_of_run (args := [_, _]) 6 Try.func66 rfl rfl rfl fun cs => ?_
  have S := Own.start (X := nob) w
  refine r_seq ?_
  refine r_region ?_
  refine l_x rfl (x_as rfl) ?_
  refine l_nil ?_
  refine r_seq ?_
  refine r_region ?_
  refine l_x rfl (x_load rfl (ld_blks (h0.keep S.le id) Try.isAgg24 Try.sizeOf24 rfl rfl)) ?_
  refine l_x rfl (x_load rfl (ld_blk (h1.keep S.le id) Try.isAgg25 rfl)) ?_
  refine l_call [] [] [_, _] rfl rfl Try.call67 rfl (c_amounts N _ arcs _ _ (by omega) _ (hA.le S.le) (Hx.le S.le)) ?_
  rintro _ w1 ⟨rfl, hl3⟩
  have S2 := S.step hl3
  refine l_x rfl (x_as rfl) ?_
  refine l_nil ?_
  refine r_ret (rs := [.tmp 2]) [_] Try.func66 rfl ⟨rfl, trivial⟩ ?_
  exact ⟨congrArg Value.bool (by simp [*]), S2.le⟩

/-- couchant/flow.Kept. -/
theorem c_Kept (N : Int) (va : Value) (arcs : List Arc) (vx : Value) (x : List Int) (hmx : x.length ≤ 9223372036854775807) (w : World) (hA : Rd EA w va arcs) (Hx : Rd EI w vx x) :
    Cl Try.prog 21 #[.agg #[.int .i64 N, va], vx] w fun v w' => v = .tuple #[.bool (decide (askd N arcs (row x arcs.length 0 1000000) = 0) && Flow.kept 1000 arcs x), .int .i64 (askd N arcs (row x arcs.length 0 1000000))] ∧ Le w w' := by
  refine fn_of_run (args := [_, _]) 16 Try.func21 rfl rfl rfl fun cs => ?_
  have S := Own.start (X := nob) w
  refine r_seq ?_
  refine r_region ?_
  refine l_box S rfl rfl ?_
  intro b4 w1 S2 hl3
  refine l_box S2 rfl (Rd.cells (Hx.le S2.le)) ?_
  intro b8 w5 S6 hl7
  refine l_x rfl (x_as rfl) ?_
  refine l_x rfl (x_as rfl) ?_
  refine l_nil ?_
  refine r_seq ?_
  refine r_seq ?_
  refine r_region ?_
  refine l_x rfl (x_load rfl (ld_blks (S6.blk 0 rfl) Try.isAgg24 Try.sizeOf24 rfl rfl)) ?_
  refine l_x rfl (x_func rfl rfl) ?_
  refine l_call [] [] [_, _] rfl rfl Try.call62 rfl (c_asked N va arcs (row x arcs.length 0 1000000) 66 [_, _] _ (hA.le S6.le) Try.call66 (fun _ w1 h1 => c_Kept1 N va arcs vx x _ _ (by omega) w1 ((S6.blk 0 rfl).keep h1 id) ((S6.blk 1 rfl).keep h1 id) (hA.le (S6.le.trans h1)) (Hx.le (S6.le.trans h1)))) ?_
  rintro _ w9 ⟨rfl, hl11⟩
  have S10 := S6.step hl11
  refine l_x rfl (x_as rfl) ?_
  refine l_nil ?_
  refine r_seq ?_
  refine r_region ?_
  refine l_x rfl (x_mv rfl) ?_
  refine l_x rfl (x_neq rfl rfl) ?_
  refine l_nil ?_
  refine r_ifd rfl (fun hc11 => ?_) (fun hc11 => ?_)
  · skip
    refine r_seq ?_
    refine r_region ?_
    refine l_x rfl (x_mv rfl) ?_
    refine l_x rfl (x_as rfl) ?_
    refine l_x rfl (x_as rfl) ?_
    refine l_nil ?_
    refine r_ret (rs := [.tmp 4, .tmp 5]) [_, _] Try.func21 rfl ⟨rfl, rfl, trivial⟩ ?_
    exact ⟨by show Value.tuple #[.bool false, .int .i64 _] = _; simp [hc11], S10.le⟩
  · skip
    have h0 := Decidable.not_not.1 hc11
    obtain ⟨hV, hq⟩ := askd_zero.1 h0
    have hx := row_amts.1 hq
    refine r_skip ?_
    refine r_seq ?_
    refine r_region ?_
    refine l_x rfl (x_load rfl (ld_blks (S10.blk 0 rfl) Try.isAgg24 Try.sizeOf24 rfl rfl)) ?_
    refine l_x rfl (x_load rfl (ld_blk (S10.blk 1 rfl) Try.isAgg25 rfl)) ?_
    refine l_call [] [] [_, _] rfl rfl Try.call68 rfl (c_kept N va arcs _ _ hV hx _ (hA.le S10.le) (Hx.le S10.le)) ?_
    rintro _ w12 ⟨rfl, hl14⟩
    have S13 := S10.step hl14
    refine l_x rfl (x_as rfl) ?_
    refine l_x rfl (x_as rfl) ?_
    refine l_nil ?_
    refine r_ret (rs := [.tmp 4, .tmp 5]) [_, _] Try.func21 rfl ⟨rfl, rfl, trivial⟩ ?_
    exact ⟨by show Value.tuple #[.bool _, .int .i64 0] = _; simp [h0], S13.le⟩

/-- couchant/flow.sum. -/
theorem c_sum (arcs : List Arc) (N : Int) (vw : Value) (wl : List Int) (vx : Value) (x : List Int) (hV : Valid N arcs) (hw : Wts arcs wl) (hx : Amts arcs x) (w : World) (Hwl : Rd EI w vw wl) (Hx : Rd EI w vx x) :
    Cl Try.prog 72 #[vw, vx] w fun v w' => v = .int .i64 (dot wl x) ∧ Le w w' := by
  have hLx := hV.len
  have hxl := hx.len
  have hwl := hw.len
  refine fn_of_run (args := [_, _]) 25 Try.func72 rfl rfl rfl fun cs => ?_
  have S := Own.start (X := nob) w
  refine r_seq ?_
  refine r_region ?_
  refine l_x rfl (x_as rfl) ?_
  refine l_nil ?_
  refine r_seq ?_
  refine r_region ?_
  refine l_x rfl (x_as rfl) ?_
  refine l_nil ?_
  refine r_seq ?_
  refine r_seq ?_
  refine r_region ?_
  refine l_x rfl (x_mv rfl) ?_
  refine l_x rfl (x_len (Hwl.le S.le) rfl Try.runUnderlying25) ?_
  refine l_x rfl (x_mv rfl) ?_
  refine l_nil ?_
  refine r_block ?_
  refine r_loop (G := Nat) (fun i => wl.length - i) (fun i => [(0, vw), (1, vx), (9, .int .i64 i), (8, .int .i64 wl.length), (5, .int .i64 (dot (wl.take i) (x.take i)))]) (fun i w' => (i ≤ wl.length) ∧ Own nob w w' []) 0 ⟨rfl, rfl, rfl, rfl, (congrArg (Value.int .i64) (by simp [dot] : (0:Int) = dot (wl.take 0) (x.take 0))), trivial⟩ ⟨Nat.zero_le _, (S.take 0)⟩ ?_
  rintro i ρ w1 ⟨hi, S1⟩ IH
  refine r_seq ?_
  refine r_region ?_
  refine l_x rfl (x_lss rfl rfl) ?_
  refine l_nil ?_
  refine r_seq ?_
  refine r_ifd rfl (fun hc10 => ?_) (fun hc10 => ?_)
  · skip
    obtain ⟨a, ha⟩ : ∃ a, wl[i]? = some a := ⟨_, List.getElem?_eq_getElem (by omega)⟩
    obtain ⟨y, hy⟩ : ∃ y, x[i]? = some y := ⟨_, List.getElem?_eq_getElem (by omega)⟩
    have hb1 := mul_bd (hw.at ha) (hx.at hy) (by omega)
    have hb2 := dot_bd_take (by omega) hw.bd hx.bd i
    refine r_skip ?_
    refine r_seq ?_
    refine r_block ?_
    refine r_seq ?_
    refine r_region ?_
    refine l_x rfl (x_mv rfl) ?_
    refine l_x rfl (x_as rfl) ?_
    refine l_nil ?_
    refine r_drawR 12 Try.mixed (by kernel_rfl) ?_
    refine w_x rfl (fun w1 h1 => x_mv rfl) ?_
    refine w_x rfl (fun w1 h1 => x_mv rfl) ?_
    refine w_x rfl (fun w1 h1 => x_mv rfl) ?_
    refine w_index EI rfl (Hwl.le S1.le) rfl rfl Try.runUnderlying25 Try.sizeOf3 (by omega) (by first | assumption | exact List.getElem?_eq_getElem (by omega)) ?_
    intro b1 o2 hat3 row4
    refine w_x rfl (fun w1 h1 => x_load rfl (ld_cell Try.isAgg3 ((row4.le h1) 0 _ rfl))) ?_
    refine w_x rfl (fun w1 h1 => x_mv rfl) ?_
    refine w_x rfl (fun w1 h1 => x_mv rfl) ?_
    refine w_index EI rfl (Hx.le S1.le) rfl rfl Try.runUnderlying25 Try.sizeOf3 (by omega) (by first | assumption | exact List.getElem?_eq_getElem (by omega)) ?_
    intro b5 o6 hat7 row8
    refine w_x rfl (fun w1 h1 => x_load rfl (ld_cell Try.isAgg3 ((row8.le h1) 0 _ rfl))) ?_
    refine w_x rfl (fun w1 h1 => x_mul rfl rfl (by omega)) ?_
    refine w_x rfl (fun w1 h1 => x_add rfl rfl (by omega)) ?_
    refine w_x rfl (fun w1 h1 => x_as rfl) ?_
    refine w_nil ?_
    intro w9 hl10
    have S11 := S1.step hl10
    refine l_nil ?_
    refine r_inBlock ?_
    refine r_region ?_
    refine l_x rfl (x_add rfl rfl (by omega)) ?_
    refine l_x rfl (x_mv rfl) ?_
    refine l_nil ?_
    exact IH (i + 1) _ _ (by omega) ⟨rfl, rfl, rfl, rfl, (congrArg (Value.int .i64) (dot_take ha hy).symm), trivial⟩ ⟨by omega, (S11.take 0)⟩
  · skip
    have hi : i = wl.length := by omega
    subst hi
    refine r_exit rfl ?_
    refine r_seq ?_
    refine r_region ?_
    refine l_x rfl (x_mv rfl) ?_
    refine l_x rfl (x_as rfl) ?_
    refine l_nil ?_
    refine r_ret (rs := [.tmp 4]) [_] Try.func72 rfl ⟨rfl, trivial⟩ ?_
    exact ⟨congrArg (Value.int .i64) (by rw [List.take_length, List.take_of_length_le (by omega)]), S1.le⟩

/-- couchant/flow.Sum$1. -/
theorem c_Sum1 (N : Int) (va : Value) (arcs : List Arc) (vw : Value) (wl : List Int) (vx : Value) (x : List Int) (b0 b1 b2 : Nat) (hmwl : wl.length ≤ 9223372036854775807) (hmx : x.length ≤ 9223372036854775807) (w : World) (h0 : Blk w b0 [.int .i64 N, va] 24) (h1 : Blk w b1 [vw] 25) (h2 : Blk w b2 [vx] 25)  (hA : Rd EA w va arcs) (Hwl : Rd EI w vw wl) (Hx : Rd EI w vx x) :
    Cl Try.prog 87 #[.pointer (some ⟨b0, 0, none⟩), .pointer (some ⟨b1, 0, none⟩), .pointer (some ⟨b2, 0, none⟩)] w fun v w' => v = .bool (row wl arcs.length (-1000) 1000 && row x arcs.length 0 1000000) ∧ Le w w' := by
  refine fn_of_run (args := [_, _, _]) 12 Try.func87 rfl rfl rfl fun cs => ?_
  have S := Own.start (X := nob) w
  refine r_seq ?_
  refine r_region ?_
  refine l_x rfl (x_as rfl) ?_
  refine l_nil ?_
  refine r_seq ?_
  refine r_region ?_
  refine l_x rfl (x_load rfl (ld_blks (h0.keep S.le id) Try.isAgg24 Try.sizeOf24 rfl rfl)) ?_
  refine l_x rfl (x_load rfl (ld_blk (h1.keep S.le id) Try.isAgg25 rfl)) ?_
  refine l_call [] [] [_, _] rfl rfl Try.call70 rfl (c_weights N _ arcs _ _ (by omega) _ (hA.le S.le) (Hwl.le S.le)) ?_
  rintro _ w1 ⟨rfl, hl3⟩
  have S2 := S.step hl3
  refine l_x rfl (x_mv rfl) ?_
  refine l_split (d := 7) rfl (fun hg7 => ?_) (fun hg7 => ?_)
  · skip
    refine l_x rfl (x_load rfl (ld_blks (h0.keep S2.le id) Try.isAgg24 Try.sizeOf24 rfl rfl)) ?_
    refine l_x rfl (x_load rfl (ld_blk (h2.keep S2.le id) Try.isAgg25 rfl)) ?_
    refine l_call [] [] [_, _] rfl rfl Try.call67 rfl (c_amounts N _ arcs _ _ (by omega) _ (hA.le S2.le) (Hx.le S2.le)) ?_
    rintro _ w4 ⟨rfl, hl6⟩
    have S5 := S2.step hl6
    refine l_x rfl (x_pick_t rfl rfl) ?_
    refine l_x rfl (x_as rfl) ?_
    refine l_nil ?_
    refine r_ret (rs := [.tmp 3]) [_] Try.func87 rfl ⟨rfl, trivial⟩ ?_
    exact ⟨congrArg Value.bool (by simp [*]), S5.le⟩
  · skip
    refine l_pass rfl ?_
    refine l_pass rfl ?_
    refine l_pass rfl ?_
    refine l_x rfl (x_pick_f rfl rfl) ?_
    refine l_x rfl (x_as rfl) ?_
    refine l_nil ?_
    refine r_ret (rs := [.tmp 3]) [_] Try.func87 rfl ⟨rfl, trivial⟩ ?_
    exact ⟨congrArg Value.bool (by simp [*]), S2.le⟩

/-- couchant/flow.Sum. -/
theorem c_Sum (N : Int) (va : Value) (arcs : List Arc) (vw : Value) (wl : List Int) (vx : Value) (x : List Int) (hmwl : wl.length ≤ 9223372036854775807) (hmx : x.length ≤ 9223372036854775807) (w : World) (hA : Rd EA w va arcs) (Hwl : Rd EI w vw wl) (Hx : Rd EI w vx x) :
    Cl Try.prog 32 #[.agg #[.int .i64 N, va], vw, vx] w fun v w' => v = .tuple #[.int .i64 (if askd N arcs (row wl arcs.length (-1000) 1000 && row x arcs.length 0 1000000) = 0 then dot wl x else 0), .int .i64 (askd N arcs (row wl arcs.length (-1000) 1000 && row x arcs.length 0 1000000))] ∧ Le w w' := by
  refine fn_of_run (args := [_, _, _]) 18 Try.func32 rfl rfl rfl fun cs => ?_
  have S := Own.start (X := nob) w
  refine r_seq ?_
  refine r_region ?_
  refine l_box S rfl rfl ?_
  intro b4 w1 S2 hl3
  refine l_box S2 rfl (Rd.cells (Hwl.le S2.le)) ?_
  intro b8 w5 S6 hl7
  refine l_box S6 rfl (Rd.cells (Hx.le S6.le)) ?_
  intro b12 w9 S10 hl11
  refine l_x rfl (x_as rfl) ?_
  refine l_x rfl (x_as rfl) ?_
  refine l_nil ?_
  refine r_seq ?_
  refine r_seq ?_
  refine r_region ?_
  refine l_x rfl (x_load rfl (ld_blks (S10.blk 0 rfl) Try.isAgg24 Try.sizeOf24 rfl rfl)) ?_
  refine l_x rfl (x_func rfl rfl) ?_
  refine l_call [] [] [_, _] rfl rfl Try.call62 rfl (c_asked N va arcs (row wl arcs.length (-1000) 1000 && row x arcs.length 0 1000000) 87 [_, _, _] _ (hA.le S10.le) Try.call87 (fun _ w1 h1 => c_Sum1 N va arcs vw wl vx x _ _ _ (by omega) (by omega) w1 ((S10.blk 0 rfl).keep h1 id) ((S10.blk 1 rfl).keep h1 id) ((S10.blk 2 rfl).keep h1 id) (hA.le (S10.le.trans h1)) (Hwl.le (S10.le.trans h1)) (Hx.le (S10.le.trans h1)))) ?_
  rintro _ w13 ⟨rfl, hl15⟩
  have S14 := S10.step hl15
  refine l_x rfl (x_as rfl) ?_
  refine l_nil ?_
  refine r_seq ?_
  refine r_region ?_
  refine l_x rfl (x_mv rfl) ?_
  refine l_x rfl (x_neq rfl rfl) ?_
  refine l_nil ?_
  refine r_ifd rfl (fun hc13 => ?_) (fun hc13 => ?_)
  · skip
    refine r_seq ?_
    refine r_region ?_
    refine l_x rfl (x_mv rfl) ?_
    refine l_x rfl (x_as rfl) ?_
    refine l_x rfl (x_as rfl) ?_
    refine l_nil ?_
    refine r_ret (rs := [.tmp 6, .tmp 7]) [_, _] Try.func32 rfl ⟨rfl, rfl, trivial⟩ ?_
    exact ⟨by show Value.tuple #[.int .i64 0, .int .i64 _] = _; simp [hc13], S14.le⟩
  · skip
    have h0 := Decidable.not_not.1 hc13
    obtain ⟨hV, hq⟩ := askd_zero.1 h0
    rw [Bool.and_eq_true] at hq
    have hw := row_wts.1 hq.1
    have hx := row_amts.1 hq.2
    refine r_skip ?_
    refine r_seq ?_
    refine r_region ?_
    refine l_x rfl (x_load rfl (ld_blk (S14.blk 1 rfl) Try.isAgg25 rfl)) ?_
    refine l_x rfl (x_load rfl (ld_blk (S14.blk 2 rfl) Try.isAgg25 rfl)) ?_
    refine l_call [] [] [_, _] rfl rfl Try.call72 rfl (c_sum arcs N _ _ _ _ hV hw hx _ (Hwl.le S14.le) (Hx.le S14.le)) ?_
    rintro _ w16 ⟨rfl, hl18⟩
    have S17 := S14.step hl18
    refine l_x rfl (x_as rfl) ?_
    refine l_x rfl (x_as rfl) ?_
    refine l_nil ?_
    refine r_ret (rs := [.tmp 6, .tmp 7]) [_, _] Try.func32 rfl ⟨rfl, rfl, trivial⟩ ?_
    exact ⟨by show Value.tuple #[.int .i64 _, .int .i64 0] = _; simp [h0], S17.le⟩

end Go.Proofs
