/- Texts joined for a claim: L0, L1, R0. -/
import Derived.Test.YtddapgjjndbejaaKf
import Derived.Test.YtddapgjjndbejaaKh
import Derived.Test.YtddapgjjndbejaaRows
/-
  Contracts of functions of the program: each by symbolic execution of its text.
-/
namespace Go.Proofs
open Go Go.Vk Go.Vk.Flow

/-- couchant/couchantlaw06.small. -/
theorem c_small (N : Int) (va : Value) (arcs : List Arc) (w : World) (hA : Rd EA w va arcs) :
    Cl Try.prog 18 #[.agg #[.int .i64 N, va]] w fun v w' => v = .bool (smallB N arcs.length) ∧ Le w w' := by
  refine fn_of_run (args := [_]) 29 Try.func18 rfl rfl rfl fun cs => ?_
  have S := Own.start (X := nob) w
  refine r_seq ?_
  refine r_region ?_
  refine l_box S rfl rfl ?_
  intro b4 w1 S2 hl3
  refine l_x rfl (x_as rfl) ?_
  refine l_nil ?_
  refine r_seq ?_
  refine r_region ?_
  refine l_x rfl (x_fieldAddr rfl Try.runUnderlying24 rfl Try.sizeOf22 (by decide)) ?_
  refine l_x rfl (x_load rfl (ld_blk (S2.blk 0 rfl) Try.isAgg22 rfl)) ?_
  refine l_x rfl (x_len (hA.le S2.le) rfl Try.runUnderlying22) ?_
  refine l_x rfl (x_leq rfl rfl) ?_
  refine l_x rfl (x_mv rfl) ?_
  refine l_splitd (d := 7) rfl (fun hg7 => ?_) (fun hg7 => ?_)
  · skip
    refine l_x rfl (x_fieldAddr rfl Try.runUnderlying24 rfl Try.sizeOf3 (by decide)) ?_
    refine l_x rfl (x_load rfl (ld_blk (S2.blk 0 rfl) Try.isAgg3 rfl)) ?_
    refine l_x rfl (x_leq rfl rfl) ?_
    refine l_x rfl (x_mv rfl) ?_
    refine l_splitd (d := 11) rfl (fun hg11 => ?_) (fun hg11 => ?_)
    · skip
      refine l_pass rfl ?_
      refine l_pass rfl ?_
      refine l_pass rfl ?_
      refine l_x rfl (x_pick_t rfl rfl) ?_
      refine l_x rfl (x_pick_t rfl rfl) ?_
      refine l_x rfl (x_mv rfl) ?_
      refine l_pass rfl ?_
      refine l_pass rfl ?_
      refine l_pass rfl ?_
      refine l_pass rfl ?_
      refine l_pass rfl ?_
      refine l_pass rfl ?_
      refine l_pass rfl ?_
      refine l_pass rfl ?_
      refine l_pass rfl ?_
      refine l_pass rfl ?_
      refine l_x rfl (x_pick_t rfl rfl) ?_
      refine l_x rfl (x_as rfl) ?_
      refine l_nil ?_
      refine r_ret (rs := [.tmp 2]) [_] Try.func18 rfl ⟨rfl, trivial⟩ ?_
      exact ⟨congrArg Value.bool (Bool.eq_iff_iff.2 (by simp [smallB]; omega)), S2.le⟩
    · skip
      refine l_x rfl (x_fieldAddr rfl Try.runUnderlying24 rfl Try.sizeOf3 (by decide)) ?_
      refine l_x rfl (x_load rfl (ld_blk (S2.blk 0 rfl) Try.isAgg3 rfl)) ?_
      refine l_x rfl (x_gtr rfl rfl) ?_
      refine l_x rfl (x_pick_f rfl rfl) ?_
      refine l_x rfl (x_pick_t rfl rfl) ?_
      refine l_x rfl (x_mv rfl) ?_
      refine l_splitd (d := 17) rfl (fun hg17 => ?_) (fun hg17 => ?_)
      · skip
        refine l_pass rfl ?_
        refine l_pass rfl ?_
        refine l_pass rfl ?_
        refine l_pass rfl ?_
        refine l_pass rfl ?_
        refine l_pass rfl ?_
        refine l_pass rfl ?_
        refine l_pass rfl ?_
        refine l_pass rfl ?_
        refine l_pass rfl ?_
        refine l_x rfl (x_pick_t rfl rfl) ?_
        refine l_x rfl (x_as rfl) ?_
        refine l_nil ?_
        refine r_ret (rs := [.tmp 2]) [_] Try.func18 rfl ⟨rfl, trivial⟩ ?_
        exact ⟨congrArg Value.bool (Bool.eq_iff_iff.2 (by simp [smallB]; omega)), S2.le⟩
      · skip
        refine l_x rfl (x_fieldAddr rfl Try.runUnderlying24 rfl Try.sizeOf22 (by decide)) ?_
        refine l_x rfl (x_load rfl (ld_blk (S2.blk 0 rfl) Try.isAgg22 rfl)) ?_
        refine l_x rfl (x_len (hA.le S2.le) rfl Try.runUnderlying22) ?_
        refine l_x rfl (x_gtr rfl rfl) ?_
        refine l_x rfl (x_mv rfl) ?_
        refine l_splitd (d := 22) rfl (fun hg22 => ?_) (fun hg22 => ?_)
        · skip
          refine l_x rfl (x_fieldAddr rfl Try.runUnderlying24 rfl Try.sizeOf22 (by decide)) ?_
          refine l_x rfl (x_load rfl (ld_blk (S2.blk 0 rfl) Try.isAgg22 rfl)) ?_
          refine l_x rfl (x_len (hA.le S2.le) rfl Try.runUnderlying22) ?_
          refine l_x rfl (x_leq rfl rfl) ?_
          refine l_x rfl (x_pick_t rfl rfl) ?_
          refine l_x rfl (x_pick_f rfl rfl) ?_
          refine l_x rfl (x_as rfl) ?_
          refine l_nil ?_
          refine r_ret (rs := [.tmp 2]) [_] Try.func18 rfl ⟨rfl, trivial⟩ ?_
          exact ⟨congrArg Value.bool (Bool.eq_iff_iff.2 (by simp [smallB]; omega)), S2.le⟩
        · skip
          refine l_pass rfl ?_
          refine l_pass rfl ?_
          refine l_pass rfl ?_
          refine l_pass rfl ?_
          refine l_x rfl (x_pick_f rfl rfl) ?_
          refine l_x rfl (x_pick_f rfl rfl) ?_
          refine l_x rfl (x_as rfl) ?_
          refine l_nil ?_
          refine r_ret (rs := [.tmp 2]) [_] Try.func18 rfl ⟨rfl, trivial⟩ ?_
          exact ⟨congrArg Value.bool (Bool.eq_iff_iff.2 (by simp [smallB]; omega)), S2.le⟩
  · skip
    refine l_pass rfl ?_
    refine l_pass rfl ?_
    refine l_pass rfl ?_
    refine l_pass rfl ?_
    refine l_pass rfl ?_
    refine l_pass rfl ?_
    refine l_pass rfl ?_
    refine l_pass rfl ?_
    refine l_x rfl (x_pick_f rfl rfl) ?_
    refine l_x rfl (x_mv rfl) ?_
    refine l_x rfl (x_fieldAddr rfl Try.runUnderlying24 rfl Try.sizeOf22 (by decide)) ?_
    refine l_x rfl (x_load rfl (ld_blk (S2.blk 0 rfl) Try.isAgg22 rfl)) ?_
    refine l_x rfl (x_len (hA.le S2.le) rfl Try.runUnderlying22) ?_
    refine l_x rfl (x_gtr rfl rfl) ?_
    refine l_x rfl (x_mv rfl) ?_
    refine l_splitd (d := 22) rfl (fun hg22 => ?_) (fun hg22 => ?_)
    · skip
      refine l_x rfl (x_fieldAddr rfl Try.runUnderlying24 rfl Try.sizeOf22 (by decide)) ?_
      refine l_x rfl (x_load rfl (ld_blk (S2.blk 0 rfl) Try.isAgg22 rfl)) ?_
      refine l_x rfl (x_len (hA.le S2.le) rfl Try.runUnderlying22) ?_
      refine l_x rfl (x_leq rfl rfl) ?_
      refine l_x rfl (x_pick_t rfl rfl) ?_
      refine l_x rfl (x_pick_f rfl rfl) ?_
      refine l_x rfl (x_as rfl) ?_
      refine l_nil ?_
      refine r_ret (rs := [.tmp 2]) [_] Try.func18 rfl ⟨rfl, trivial⟩ ?_
      exact ⟨congrArg Value.bool (Bool.eq_iff_iff.2 (by simp [smallB]; omega)), S2.le⟩
    · skip
      refine l_pass rfl ?_
      refine l_pass rfl ?_
      refine l_pass rfl ?_
      refine l_pass rfl ?_
      refine l_x rfl (x_pick_f rfl rfl) ?_
      refine l_x rfl (x_pick_f rfl rfl) ?_
      refine l_x rfl (x_as rfl) ?_
      refine l_nil ?_
      refine r_ret (rs := [.tmp 2]) [_] Try.func18 rfl ⟨rfl, trivial⟩ ?_
      exact ⟨congrArg Value.bool (Bool.eq_iff_iff.2 (by simp [smallB]; omega)), S2.le⟩

/-- couchant/couchantlaw06.short. -/
theorem c_short (va vb vc : Value) (a b c : List Int) (w : World) (Ha : Rd EI w va a) (Hb : Rd EI w vb b) (Hc : Rd EI w vc c) :
    Cl Try.prog 30 #[va, vb, vc] w fun v w' => v = .bool (decide (a.length ≤ 200 ∧ b.length ≤ 200 ∧ c.length ≤ 200)) ∧ Le w w' := by
  refine fn_of_run (args := [_, _, _]) 20 Try.func30 rfl rfl rfl fun cs => ?_
  have S := Own.start (X := nob) w
  refine r_seq ?_
  refine r_region ?_
  refine l_x rfl (x_as rfl) ?_
  refine l_nil ?_
  refine r_seq ?_
  refine r_region ?_
  refine l_x rfl (x_mv rfl) ?_
  refine l_x rfl (x_len (Ha.le S.le) rfl Try.runUnderlying25) ?_
  refine l_x rfl (x_leq rfl rfl) ?_
  refine l_x rfl (x_mv rfl) ?_
  refine l_splitd (d := 10) rfl (fun hg10 => ?_) (fun hg10 => ?_)
  · skip
    refine l_x rfl (x_mv rfl) ?_
    refine l_x rfl (x_len (Hb.le S.le) rfl Try.runUnderlying25) ?_
    refine l_x rfl (x_leq rfl rfl) ?_
    refine l_x rfl (x_pick_t rfl rfl) ?_
    refine l_x rfl (x_mv rfl) ?_
    refine l_splitd (d := 15) rfl (fun hg15 => ?_) (fun hg15 => ?_)
    · skip
      refine l_x rfl (x_mv rfl) ?_
      refine l_x rfl (x_len (Hc.le S.le) rfl Try.runUnderlying25) ?_
      refine l_x rfl (x_leq rfl rfl) ?_
      refine l_x rfl (x_pick_t rfl rfl) ?_
      refine l_x rfl (x_as rfl) ?_
      refine l_nil ?_
      refine r_ret (rs := [.tmp 6]) [_] Try.func30 rfl ⟨rfl, trivial⟩ ?_
      exact ⟨congrArg Value.bool (Bool.eq_iff_iff.2 (by simp; omega)), S.le⟩
    · skip
      refine l_pass rfl ?_
      refine l_pass rfl ?_
      refine l_pass rfl ?_
      refine l_x rfl (x_pick_f rfl rfl) ?_
      refine l_x rfl (x_as rfl) ?_
      refine l_nil ?_
      refine r_ret (rs := [.tmp 6]) [_] Try.func30 rfl ⟨rfl, trivial⟩ ?_
      exact ⟨congrArg Value.bool (Bool.eq_iff_iff.2 (by simp; omega)), S.le⟩
  · skip
    refine l_pass rfl ?_
    refine l_pass rfl ?_
    refine l_pass rfl ?_
    refine l_x rfl (x_pick_f rfl rfl) ?_
    refine l_x rfl (x_mv rfl) ?_
    refine l_pass rfl ?_
    refine l_pass rfl ?_
    refine l_pass rfl ?_
    refine l_x rfl (x_pick_f rfl rfl) ?_
    refine l_x rfl (x_as rfl) ?_
    refine l_nil ?_
    refine r_ret (rs := [.tmp 6]) [_] Try.func30 rfl ⟨rfl, trivial⟩ ?_
    exact ⟨congrArg Value.bool (Bool.eq_iff_iff.2 (by simp; omega)), S.le⟩

end Go.Proofs

/-
  Contracts of functions of the program: each by symbolic execution of its text.
-/
namespace Go.Proofs
open Go Go.Vk Go.Vk.Flow

theorem c_KeptR (N : Int) (va : Value) (arcs : List Arc) (vx : Value) (x : List Int) (hmx : x.length ≤ 9223372036854775807) (w : World) (hA : Rd EA w va arcs) (Hx : Rd EI w vx x) :
    Cl Try.prog 21 #[.agg #[.int .i64 N, va], vx] w fun v w' => ∃ k e, v = .tuple #[.bool k, .int .i64 e] ∧ Le w w' ∧ KeptR N arcs x k e :=
  (c_Kept N va arcs vx x hmx w hA Hx).mono fun _ _ ⟨h1, h2⟩ => ⟨_, _, h1, h2, KeptR.of⟩

theorem c_KeptR2 (N : Int) (va : Value) (arcs : List Arc) (vx : Value) (x : List Int) (hmx : x.length ≤ 9223372036854775807) (w : World) (hA : Rd EA w va arcs) (Hx : Rd EI w vx x) :
    Cl Try.prog 21 #[.agg #[.int .i64 N, va], vx] w fun v w' => (∃ e, v = .tuple #[.bool true, .int .i64 e] ∧ Le w w' ∧ KeptR N arcs x true e) ∨ ∃ e, v = .tuple #[.bool false, .int .i64 e] ∧ Le w w' ∧ KeptR N arcs x false e :=
  (c_KeptR N va arcs vx x hmx w hA Hx).mono fun _ _ ⟨k, e, h1, h2, h3⟩ => by
    cases k
    · exact .inr ⟨e, h1, h2, h3⟩
    · exact .inl ⟨e, h1, h2, h3⟩

theorem c_SumR (N : Int) (va : Value) (arcs : List Arc) (vw : Value) (wl : List Int) (vx : Value) (x : List Int) (hmwl : wl.length ≤ 9223372036854775807) (hmx : x.length ≤ 9223372036854775807) (w : World) (hA : Rd EA w va arcs) (Hwl : Rd EI w vw wl) (Hx : Rd EI w vx x) :
    Cl Try.prog 32 #[.agg #[.int .i64 N, va], vw, vx] w fun v w' => ∃ k e, v = .tuple #[.int .i64 k, .int .i64 e] ∧ Le w w' ∧ SumR N arcs wl x k e :=
  (c_Sum N va arcs vw wl vx x hmwl hmx w hA Hwl Hx).mono fun _ _ ⟨h1, h2⟩ => ⟨_, _, h1, h2, SumR.of⟩

theorem c_BoundR (N : Int) (va : Value) (arcs : List Arc) (vw : Value) (wl : List Int) (vp : Value) (p : List Int) (hmwl : wl.length ≤ 9223372036854775807) (hmp : p.length ≤ 9223372036854775807) (w : World) (hA : Rd EA w va arcs) (Hwl : Rd EI w vw wl) (Hp : Rd EI w vp p) :
    Cl Try.prog 34 #[.agg #[.int .i64 N, va], vw, vp] w fun v w' => ∃ k e, v = .tuple #[.int .i64 k, .int .i64 e] ∧ Le w w' ∧ BoundR N arcs wl p k e :=
  (c_Bound N va arcs vw wl vp p hmwl hmp w hA Hwl Hp).mono fun _ _ ⟨h1, h2⟩ => ⟨_, _, h1, h2, BoundR.of⟩

theorem c_CheckBestR (N : Int) (va : Value) (arcs : List Arc) (vw : Value) (wl : List Int) (vx : Value) (x : List Int) (vp : Value) (p : List Int) (hmwl : wl.length ≤ 9223372036854775807) (hmx : x.length ≤ 9223372036854775807) (hmp : p.length ≤ 9223372036854775807) (w : World) (hA : Rd EA w va arcs) (Hwl : Rd EI w vw wl) (Hx : Rd EI w vx x) (Hp : Rd EI w vp p) :
    Cl Try.prog 38 #[.agg #[.int .i64 N, va], vw, vx, vp] w fun v w' => ∃ k e, v = .tuple #[.bool k, .int .i64 e] ∧ Le w w' ∧ BestR N arcs wl x p k e :=
  (c_CheckBest N va arcs vw wl vx x vp p hmwl hmx hmp w hA Hwl Hx Hp).mono fun _ _ ⟨h1, h2⟩ => ⟨_, _, h1, h2, BestR.of⟩

theorem c_CheckBestR2 (N : Int) (va : Value) (arcs : List Arc) (vw : Value) (wl : List Int) (vx : Value) (x : List Int) (vp : Value) (p : List Int) (hmwl : wl.length ≤ 9223372036854775807) (hmx : x.length ≤ 9223372036854775807) (hmp : p.length ≤ 9223372036854775807) (w : World) (hA : Rd EA w va arcs) (Hwl : Rd EI w vw wl) (Hx : Rd EI w vx x) (Hp : Rd EI w vp p) :
    Cl Try.prog 38 #[.agg #[.int .i64 N, va], vw, vx, vp] w fun v w' => (∃ e, v = .tuple #[.bool true, .int .i64 e] ∧ Le w w' ∧ BestR N arcs wl x p true e) ∨ ∃ e, v = .tuple #[.bool false, .int .i64 e] ∧ Le w w' ∧ BestR N arcs wl x p false e :=
  (c_CheckBestR N va arcs vw wl vx x vp p hmwl hmx hmp w hA Hwl Hx Hp).mono fun _ _ ⟨k, e, h1, h2, h3⟩ => by
    cases k
    · exact .inr ⟨e, h1, h2, h3⟩
    · exact .inl ⟨e, h1, h2, h3⟩

theorem intF : IntFields Try.prog 0 (Try.prog.fieldsOf 39).toList := intFields_of (P := Try.prog) (t := 3) Try.underlying3 Try.isAgg3 (Try.prog.fieldsOf 39).toList 0 (by kernel_rfl)
theorem structA : Try.prog.underlying 39 = some (.struct (Try.prog.fieldsOf 39)) := by kernel_rfl
theorem stoodA : Try.prog.stoodInHeld 39 = false := by kernel_rfl
theorem guardA : Try.prog.eqGuardType Try.prog.depth 39 = false := by kernel_rfl
theorem lenA : (Try.prog.fieldsOf 39).toList.length = 6 := by kernel_rfl
theorem x_neqA {a b : Arc} {w : World} {E : Operand → Value} {x y : Operand} {T ty : TypeId} (hx : E x = .agg a.enc.toArray) (hy : E y = .agg b.enc.toArray) : X Try.prog E (.binOp .neq 39 x y T) ty w (.bool (decide (¬ a = b))) w :=
  x_neqarc structA stoodA guardA intF lenA hx hy
theorem take_sameA {a b : List Arc} {i : Nat} {x y : Arc} (hx : a[i]? = some x) (hy : b[i]? = some y) (e : x = y) (h : a.take i = b.take i) : a.take (i + 1) = b.take (i + 1) := by
  rw [List.take_add_one, List.take_add_one, hx, hy, h, e]

/-- couchant/couchantref06.SameNet. -/
theorem c_SameNet (N M : Int) (va : Value) (a : List Arc) (vb : Value) (b : List Arc) (hm : a.length ≤ 9223372036854775807) (w : World) (Ha : Rd EA w va a) (Hb : Rd EA w vb b) :
    Cl Try.prog 24 #[.agg #[.int .i64 N, va], .agg #[.int .i64 M, vb]] w fun v w' => v = .bool (decide (N = M ∧ a = b)) ∧ Le w w' := by
  refine fn_of_run (args := [_, _]) 38 Try.func24 rfl rfl rfl fun cs => ?_
  have S := Own.start (X := nob) w
  refine r_seq ?_
  refine r_region ?_
  refine l_box S rfl rfl ?_
  intro b4 w1 S2 hl3
  refine l_box S2 rfl rfl ?_
  intro b8 w5 S6 hl7
  refine l_x rfl (x_as rfl) ?_
  refine l_nil ?_
  refine r_seq ?_
  refine r_seq ?_
  refine r_region ?_
  refine l_x rfl (x_fieldAddr rfl Try.runUnderlying24 rfl Try.sizeOf3 (by decide)) ?_
  refine l_x rfl (x_load rfl (ld_blk (S6.blk 0 rfl) Try.isAgg3 rfl)) ?_
  refine l_x rfl (x_fieldAddr rfl Try.runUnderlying24 rfl Try.sizeOf3 (by decide)) ?_
  refine l_x rfl (x_load rfl (ld_blk (S6.blk 1 rfl) Try.isAgg3 rfl)) ?_
  refine l_x rfl (x_neq rfl rfl) ?_
  refine l_x rfl (x_mv rfl) ?_
  refine l_splitd (d := 11) rfl (fun hg11 => ?_) (fun hg11 => ?_)
  · skip
    refine l_pass rfl ?_
    refine l_pass rfl ?_
    refine l_pass rfl ?_
    refine l_pass rfl ?_
    refine l_pass rfl ?_
    refine l_pass rfl ?_
    refine l_pass rfl ?_
    refine l_x rfl (x_pick_t rfl rfl) ?_
    refine l_nil ?_
    refine r_true rfl ?_
    refine r_seq ?_
    refine r_region ?_
    refine l_x rfl (x_as rfl) ?_
    refine l_nil ?_
    refine r_ret (rs := [.tmp 4]) [_] Try.func24 rfl ⟨rfl, trivial⟩ ?_
    exact ⟨congrArg Value.bool (decide_eq_false (fun h => by obtain ⟨rfl, rfl⟩ := h; first | exact hg11 rfl | exact hc19 rfl | omega)).symm, S6.le⟩
  · skip
    refine l_x rfl (x_fieldAddr rfl Try.runUnderlying24 rfl Try.sizeOf22 (by decide)) ?_
    refine l_x rfl (x_load rfl (ld_blk (S6.blk 0 rfl) Try.isAgg22 rfl)) ?_
    refine l_x rfl (x_len (Ha.le S6.le) rfl Try.runUnderlying22) ?_
    refine l_x rfl (x_fieldAddr rfl Try.runUnderlying24 rfl Try.sizeOf22 (by decide)) ?_
    refine l_x rfl (x_load rfl (ld_blk (S6.blk 1 rfl) Try.isAgg22 rfl)) ?_
    refine l_x rfl (x_len (Hb.le S6.le) rfl Try.runUnderlying22) ?_
    refine l_x rfl (x_neq rfl rfl) ?_
    refine l_x rfl (x_pick_f rfl rfl) ?_
    refine l_nil ?_
    refine r_ifd rfl (fun hc19 => ?_) (fun hc19 => ?_)
    · skip
      refine r_seq ?_
      refine r_region ?_
      refine l_x rfl (x_as rfl) ?_
      refine l_nil ?_
      refine r_ret (rs := [.tmp 4]) [_] Try.func24 rfl ⟨rfl, trivial⟩ ?_
      exact ⟨congrArg Value.bool (decide_eq_false (fun h => by obtain ⟨rfl, rfl⟩ := h; first | exact hg11 rfl | exact hc19 rfl | omega)).symm, S6.le⟩
    · skip
      have hab : a.length = b.length := by omega
      have hNM : N = M := Decidable.not_not.1 hg11
      refine r_skip ?_
      refine r_seq ?_
      refine r_seq ?_
      refine r_region ?_
      refine l_x rfl (x_as rfl) ?_
      refine l_nil ?_
      refine r_block ?_
      refine r_loop (G := Nat) (fun i => a.length - i) (fun i => [(2, .pointer (some ⟨b4, 0, none⟩)), (3, .pointer (some ⟨b8, 0, none⟩)), (5, .int .i64 i)]) (fun i w' => (i ≤ a.length) ∧ (a.take i = b.take i) ∧ Own nob w w' [blk b4 [.int .i64 N, va] 24, blk b8 [.int .i64 M, vb] 24]) 0 ⟨rfl, rfl, rfl, trivial⟩ ⟨Nat.zero_le _, by simp, S6⟩ ?_
      rintro i ρ w1 ⟨hi, hs, S1⟩ IH
      refine r_seq ?_
      refine r_seq ?_
      refine r_region ?_
      refine l_x rfl (x_mv rfl) ?_
      refine l_x rfl (x_fieldAddr rfl Try.runUnderlying24 rfl Try.sizeOf22 (by decide)) ?_
      refine l_x rfl (x_load rfl (ld_blk (S1.blk 0 rfl) Try.isAgg22 rfl)) ?_
      refine l_x rfl (x_len (Ha.le S1.le) rfl Try.runUnderlying22) ?_
      refine l_x rfl (x_lss rfl rfl) ?_
      refine l_nil ?_
      refine r_ifd rfl (fun hc24 => ?_) (fun hc24 => ?_)
      · skip
        obtain ⟨x, hx⟩ : ∃ x, a[i]? = some x := ⟨_, List.getElem?_eq_getElem (by omega)⟩
        obtain ⟨y, hy⟩ : ∃ y, b[i]? = some y := ⟨_, List.getElem?_eq_getElem (by omega)⟩
        refine r_skip ?_
        refine r_seq ?_
        refine r_block ?_
        refine r_seq ?_
        refine r_drawR 11 Try.mixed (by kernel_rfl) ?_
        refine w_x rfl (fun w1 h1 => x_fieldAddr rfl Try.runUnderlying24 rfl Try.sizeOf22 (by decide)) ?_
        refine w_x rfl (fun w1 h1 => x_load rfl (ld_blk ((S1.step h1).blk 0 rfl) Try.isAgg22 rfl)) ?_
        refine w_x rfl (fun w1 h1 => x_mv rfl) ?_
        refine w_index EA rfl (Ha.le S1.le) rfl rfl Try.runUnderlying22 Try.sizeOf39 (by omega) (by first | assumption | exact List.getElem?_eq_getElem (by omega)) ?_
        intro b9 o10 hat11 row12
        refine w_x rfl (fun w1 h1 => x_load rfl (ld_row Try.isAgg39 Try.sizeOf39 rfl (row12.le h1))) ?_
        refine w_x rfl (fun w1 h1 => x_fieldAddr rfl Try.runUnderlying24 rfl Try.sizeOf22 (by decide)) ?_
        refine w_x rfl (fun w1 h1 => x_load rfl (ld_blk ((S1.step h1).blk 1 rfl) Try.isAgg22 rfl)) ?_
        refine w_x rfl (fun w1 h1 => x_mv rfl) ?_
        refine w_index EA rfl (Hb.le S1.le) rfl rfl Try.runUnderlying22 Try.sizeOf39 (by omega) (by first | assumption | exact List.getElem?_eq_getElem (by omega)) ?_
        intro b13 o14 hat15 row16
        refine w_x rfl (fun w1 h1 => x_load rfl (ld_row Try.isAgg39 Try.sizeOf39 rfl (row16.le h1))) ?_
        refine w_x rfl (fun w1 h1 => x_neqA rfl rfl) ?_
        refine w_nil ?_
        intro w17 hl18
        have S19 := S1.step hl18
        refine l_nil ?_
        refine r_ifd rfl (fun hc37 => ?_) (fun hc37 => ?_)
        · skip
          refine r_seq ?_
          refine r_region ?_
          refine l_x rfl (x_as rfl) ?_
          refine l_nil ?_
          refine r_ret (rs := [.tmp 4]) [_] Try.func24 rfl ⟨rfl, trivial⟩ ?_
          exact ⟨congrArg Value.bool (decide_eq_false (fun h => by obtain ⟨rfl, rfl⟩ := h; rw [hx] at hy; exact hc37 (Option.some.inj hy))).symm, S19.le⟩
        · skip
          have hc37 : x = y := Decidable.not_not.1 hc37
          refine r_skip ?_
          refine r_inBlock ?_
          refine r_region ?_
          refine l_x rfl (x_mv rfl) ?_
          refine l_x rfl (x_add rfl rfl (by omega)) ?_
          refine l_x rfl (x_as rfl) ?_
          refine l_nil ?_
          exact IH (i + 1) _ _ (by omega) ⟨rfl, rfl, rfl, trivial⟩ ⟨by omega, take_sameA hx hy hc37 hs, S19⟩
      · skip
        have hie : i = a.length := by omega
        subst hie
        refine r_exit rfl ?_
        refine r_seq ?_
        refine r_region ?_
        refine l_x rfl (x_as rfl) ?_
        refine l_nil ?_
        refine r_ret (rs := [.tmp 4]) [_] Try.func24 rfl ⟨rfl, trivial⟩ ?_
        exact ⟨congrArg Value.bool (decide_eq_true ⟨hNM, by rw [List.take_length] at hs; rw [hs, hab, List.take_length]⟩).symm, S1.le⟩

end Go.Proofs

/-
  What the rows need: how arguments are opened.
-/
namespace Go.Proofs
open Go Go.Vk Go.Vk.Flow

open Go.ChangeShapes Go.WideShapes Go.RowKit Go.Joins
theorem ownT : ownKnob Try.prog.godebug = none := by kernel_rfl
theorem laidT : laidOutB Try.prog = true := by kernel_rfl
theorem cellsA : Try.prog.cellsOf 39 = 6 := by kernel_rfl
theorem cellsN : Try.prog.cellsOf 24 = 2 := by kernel_rfl
theorem cellsO : Try.prog.cellsOf 43 = 2 := by kernel_rfl
section
variable {H : Type} {enc : TypeId × Value → H} {W : World} {base : Nat} {sp : Nat → Bool} {held : Bool} {r : Reach} {b0 : Nat}
theorem arcDec (fuel : Nat) (cs : List Value) (y : DataW H × List MemPlace) (hl : cs.length = EA.sz) (hy : DataW.trod enc Try.prog W base sp held fuel EA.T cs = some y) : ∃ a, cs = EA.enc a :=
  dec_arc Try.underlying39 Try.underlying3 cellsI (fun i hi => by
    match i, hi with
    | 0, _ => exact ⟨_, rfl, rfl, rfl⟩
    | 1, _ => exact ⟨_, rfl, rfl, rfl⟩
    | 2, _ => exact ⟨_, rfl, rfl, rfl⟩
    | 3, _ => exact ⟨_, rfl, rfl, rfl⟩
    | 4, _ => exact ⟨_, rfl, rfl, rfl⟩
    | 5, _ => exact ⟨_, rfl, rfl, rfl⟩) rfl fuel cs y hl hy
set_option maxRecDepth 100000 in
theorem openInts {v : Value} {d : DataW H} {p : List MemPlace} (hv : Value.okWide Try.prog W r b0 25 v) (h : DataW.Trod enc Try.prog W base sp held 25 v d p) : ∃ l, Rd EI W v l ∧ l.length ≤ maxLen := by
  obtain ⟨a, len, cap, rfl⟩ := okWide_slice Try.underlying25 hv
  obtain ⟨fuel, hf⟩ := h
  exact rd_of EI Try.underlying25 cellsI (fun fuel cs y hl hy => dec_int Try.underlying3 fuel cs y hl hy) hf
set_option maxRecDepth 100000 in
theorem openNet {v : Value} {d : DataW H} {p : List MemPlace} (hv : Value.okWide Try.prog W r b0 24 v) (h : DataW.Trod enc Try.prog W base sp held 24 v d p) : ∃ N va arcs, v = .agg #[.int .i64 N, va] ∧ Rd EA W va arcs ∧ arcs.length ≤ maxLen := by
  obtain ⟨v0, v1, y0, y1, n, rfl, _, _, h0, h1⟩ := open_agg2 Try.underlying24 (by kernel_rfl) cellsN hv h
  obtain ⟨N, e, _, _⟩ := DataW.trod_int Try.underlying3 h0
  simp at e
  subst e
  obtain ⟨l, hl, hm⟩ := rd_of EA Try.underlying22 cellsA arcDec h1
  exact ⟨N, v1, l, rfl, hl, hm⟩
set_option maxRecDepth 100000 in
theorem openObs {v : Value} {d : DataW H} {p : List MemPlace} (hv : Value.okWide Try.prog W r b0 43 v) (h : DataW.Trod enc Try.prog W base sp held 43 v d p) : ∃ A vn ns, v = .agg #[.int .i64 A, vn] ∧ Rd EI W vn ns ∧ ns.length ≤ maxLen := by
  obtain ⟨v0, v1, y0, y1, n, rfl, _, _, h0, h1⟩ := open_agg2 Try.underlying43 (by kernel_rfl) cellsO hv h
  obtain ⟨N, e, _, _⟩ := DataW.trod_int Try.underlying3 h0
  simp at e
  subst e
  obtain ⟨l, hl, hm⟩ := rd_of EI Try.underlying25 cellsI (fun fuel cs y hl hy => dec_int Try.underlying3 fuel cs y hl hy) h1
  exact ⟨N, v1, l, rfl, hl, hm⟩
end

end Go.Proofs
