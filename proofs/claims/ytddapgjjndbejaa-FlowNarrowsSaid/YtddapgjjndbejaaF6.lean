/-
  Contracts of functions of the program: each by symbolic execution of its text.
-/
import Derived.Test.YtddapgjjndbejaaF5
namespace Go.Proofs
open Go Go.Vk Go.Vk.Flow

/-- couchant/flow.cut. -/
theorem c_cut (N : Int) (va : Value) (arcs : List Arc) (vn : Value) (ns : List Int) (hV : Valid N arcs) (hb : ∀ v ∈ ns, 0 ≤ v ∧ v < N) (hmx : ns.length ≤ 9223372036854775807) (w : World) (Hn : Rd EI w vn ns) :
    Cl Try.prog 81 #[.agg #[.int .i64 N, va], vn] w fun v w' => ∃ b1 b2 vs, v = .func (.func 128) #[] #[.pointer (some ⟨b1, 0, none⟩), .pointer (some ⟨b2, 0, none⟩)] ∧ Own nob w w' [blk b1 [.int .i64 N, va] 24, vec EB vs (mk N ns), blk b2 [vs] 101] := by
  have hNx := hV.max
  have hN1 := hV.pos
  refine fn_of_run (args := [_, _]) 22 Try.func81 rfl rfl rfl fun cs => ?_
  have S := Own.start (X := nob) w
  refine r_seq ?_
  refine r_region ?_
  refine l_box S rfl rfl ?_
  intro b4 w1 S2 hl3
  refine l_x rfl (x_as rfl) ?_
  refine l_nil ?_
  refine r_seq ?_
  refine r_region ?_
  refine l_x rfl (x_fieldAddr rfl Try.runUnderlying24 rfl Try.sizeOf3 (by decide)) ?_
  refine l_x rfl (x_load rfl (ld_blk (S2.blk 0 rfl) Try.isAgg3 rfl)) ?_
  refine l_make EB false S2 rfl Try.runUnderlying101 Try.sizeOf4 Try.typeInfo4 Try.zeroValue4 rfl rfl (congrArg (Value.int .i64) (Int.toNat_of_nonneg (by omega)).symm) (congrArg (Value.int .i64) (Int.toNat_of_nonneg (by omega)).symm) (Nat.le_refl _) (by unfold maxLen; omega) (by show _ * 1 ≤ _; omega) ?_
  intro v8 w5 hv9 S6 hl7
  refine l_alloc S6 rfl Try.zeroValue101 rfl ?_
  intro b13 w10 S11 hl12
  refine l_storeq (c' := [_]) (v := v8) S11 2 rfl rfl rfl rfl (Rd.one (vec_rd (S11.at 1 rfl))) Try.sizeOf101 (by simp) rfl ?_
  intro w14 S15 hk16
  refine l_nil ?_
  refine r_seq ?_
  refine r_seq ?_
  refine r_region ?_
  refine l_x rfl (x_mv rfl) ?_
  refine l_x rfl (x_len (Hn.le S15.le) rfl Try.runUnderlying25) ?_
  refine l_x rfl (x_mv rfl) ?_
  refine l_nil ?_
  refine r_block ?_
  refine r_loop (G := Nat) (fun i => ns.length - i) (fun i => [(2, .pointer (some ⟨b4, 0, none⟩)), (5, .pointer (some ⟨b13, 0, none⟩)), (11, vn), (13, .int .i64 i), (12, .int .i64 ns.length)]) (fun i w' => (i ≤ ns.length) ∧ Own nob w w' [blk b4 [.int .i64 N, va] 24, vec EB v8 (mk N (ns.take i)), blk b13 [v8] 101]) 0 ⟨rfl, rfl, rfl, rfl, rfl, trivial⟩ ⟨Nat.zero_le _, (by rw [List.take_zero, mk_nil]; exact S15)⟩ ?_
  rintro i ρ w1 ⟨hi, S1⟩ IH
  refine r_seq ?_
  refine r_region ?_
  refine l_x rfl (x_lss rfl rfl) ?_
  refine l_nil ?_
  refine r_seq ?_
  refine r_ifd rfl (fun hc14 => ?_) (fun hc14 => ?_)
  · skip
    obtain ⟨a, ha⟩ : ∃ a, ns[i]? = some a := ⟨_, List.getElem?_eq_getElem (by omega)⟩
    have hab := hb a (List.mem_of_getElem? ha)
    refine r_skip ?_
    refine r_seq ?_
    refine r_block ?_
    refine r_seq ?_
    refine r_region ?_
    refine l_index EI rfl (Hn.le S1.le) rfl rfl Try.runUnderlying25 Try.sizeOf3 (by omega) (by first | assumption | exact List.getElem?_eq_getElem (by omega)) ?_
    intro b17 o18 hat19 row20
    refine l_x rfl (x_load rfl (ld_cell Try.isAgg3 (row20 0 _ rfl))) ?_
    refine l_x rfl (x_as rfl) ?_
    refine l_nil ?_
    refine r_region ?_
    refine l_x rfl (x_load rfl (ld_blk (S1.blk 2 rfl) Try.isAgg101 rfl)) ?_
    refine l_x rfl (x_mv rfl) ?_
    refine l_index EB rfl (vec_rd (S1.at 1 rfl)) rfl rfl Try.runUnderlying101 Try.sizeOf4 (by omega) (mk_get (by omega)) ?_
    intro b21 o22 hat23 row24
    refine l_storevb (f := 0) S1 1 rfl rfl hat23 rfl rfl Try.sizeOf4 (mk_get (by omega)) (by decide) rfl ?_
    intro w25 S26 hk27
    refine l_nil ?_
    refine r_inBlock ?_
    refine r_region ?_
    refine l_x rfl (x_add rfl rfl (by omega)) ?_
    refine l_x rfl (x_mv rfl) ?_
    refine l_nil ?_
    exact IH (i + 1) _ _ (by omega) ⟨rfl, rfl, rfl, rfl, rfl, trivial⟩ ⟨by omega, (by rw [take_snoc ns i (by omega), (List.getElem?_eq_some_iff.1 ha).2, ← mk_set (by omega)]; exact S26)⟩
  · skip
    have hi : i = ns.length := by omega
    subst hi
    refine r_exit rfl ?_
    refine r_seq ?_
    refine r_region ?_
    refine l_x rfl (x_func rfl rfl) ?_
    refine l_x rfl (x_as rfl) ?_
    refine l_nil ?_
    refine r_ret (rs := [.tmp 4]) [_] Try.func81 rfl ⟨rfl, trivial⟩ ?_
    exact ⟨_, _, _, rfl, by have hS := S1; rw [List.take_length] at hS; exact hS⟩

/-- couchant/flow.cut$1. -/
theorem c_cut1 (N : Int) (va : Value) (arcs : List Arc) (ns : List Int) (hV : Valid N arcs) (b1 b2 yl : Nat) (vs : Value) (X : Nat → Prop) (u : World) (hX : ∀ b, X b → u.heap.size ≤ b) (hA : Rd EA u va arcs) (R : List (Arc × Bool) → Rsc → Prop)
    (hy : ∀ t r a o w1, R t r → (∃ s, cutl ns arcs = t ++ (a, o) :: s) → Own r.fp w1 w1 [r] → Yl Try.prog yl [Value.agg a.enc.toArray, Value.bool o].toArray w1 fun v w2 => ∃ r', v = .bool true ∧ R (t ++ [(a, o)]) r' ∧ Own r.fp w1 w2 [r']) (r : Rsc) (hr : R [] r) (w : World) (S : Own X u w [blk b1 [.int .i64 N, va] 24, vec EB vs (mk N ns), blk b2 [vs] 101, r]) :
    Cl Try.prog 128 #[.func (.yield yl) #[] #[], .pointer (some ⟨b1, 0, none⟩), .pointer (some ⟨b2, 0, none⟩)] w fun _ w' => ∃ r', R (cutl ns arcs) r' ∧ Own X u w' [blk b1 [.int .i64 N, va] 24, vec EB vs (mk N ns), blk b2 [vs] 101, r'] := by
  have hNx := hV.max
  have hLx := hV.len
  refine fn_of_run (args := [_, _, _]) 36 Try.func128 rfl rfl rfl fun cs => ?_
  refine r_seq ?_
  refine r_region ?_
  refine l_x rfl (x_fieldAddr rfl Try.runUnderlying24 rfl Try.sizeOf22 (by decide)) ?_
  refine l_x rfl (x_load rfl (ld_blk (S.blk 0 rfl) Try.isAgg22 rfl)) ?_
  refine l_x rfl (x_len (hA.le (S.here hX)) rfl Try.runUnderlying22) ?_
  refine l_x rfl (x_mv rfl) ?_
  refine l_nil ?_
  refine r_block ?_
  refine r_loop (G := Nat × Rsc) (fun ⟨i, r1⟩ => arcs.length - i) (fun ⟨i, r1⟩ => [(0, .func (.yield yl) #[] #[]), (1, .pointer (some ⟨b1, 0, none⟩)), (2, .pointer (some ⟨b2, 0, none⟩)), (7, va), (9, .int .i64 i), (8, .int .i64 arcs.length)]) (fun ⟨i, r1⟩ w' => (i ≤ arcs.length) ∧ (R (cutl ns (arcs.take i)) r1) ∧ Own X u w' [blk b1 [.int .i64 N, va] 24, vec EB vs (mk N ns), blk b2 [vs] 101, r1]) (0, r) ⟨rfl, rfl, rfl, rfl, rfl, rfl, trivial⟩ ⟨Nat.zero_le _, by simpa [cutl] using hr, (S.take 4)⟩ ?_
  rintro ⟨i, r1⟩ ρ w1 ⟨hi, hR, S1⟩ IH
  refine r_seq ?_
  refine r_region ?_
  refine l_x rfl (x_lss rfl rfl) ?_
  refine l_nil ?_
  refine r_seq ?_
  refine r_ifd rfl (fun hc10 => ?_) (fun hc10 => ?_)
  · skip
    obtain ⟨a, ha⟩ : ∃ a, arcs[i]? = some a := ⟨_, List.getElem?_eq_getElem (by omega)⟩
    have hok := hV.at ha
    refine r_skip ?_
    refine r_seq ?_
    refine r_block ?_
    refine r_seq ?_
    refine r_region ?_
    refine l_index EA rfl (hA.le (S1.here hX)) rfl rfl Try.runUnderlying22 Try.sizeOf39 (by omega) (by first | assumption | exact List.getElem?_eq_getElem (by omega)) ?_
    intro b1 o2 hat3 row4
    refine l_x rfl (x_load rfl (ld_row Try.isAgg39 Try.sizeOf39 rfl row4)) ?_
    refine l_alloc S1 rfl Try.zeroValue39 rfl ?_
    intro b8 w5 S6 hl7
    refine l_stores S6 4 rfl rfl rfl rfl (EA.one _) Try.sizeOf39 (by first | exact Nat.le_refl _ | simp) (splice_all rfl) ?_
    intro w9 S10 hk11
    refine l_nil ?_
    refine r_seq ?_
    refine r_drawR 19 Try.mixed (by kernel_rfl) ?_
    refine w_x rfl (fun w1 h1 => x_load rfl (ld_blk ((S10.step h1).blk 2 rfl) Try.isAgg101 rfl)) ?_
    refine w_x rfl (fun w1 h1 => x_fieldAddr rfl Try.runUnderlying39 rfl Try.sizeOf3 (by decide)) ?_
    refine w_x rfl (fun w1 h1 => x_load rfl (ld_blk ((S10.step h1).blk 4 rfl) Try.isAgg3 rfl)) ?_
    refine w_index EB rfl (vec_rd (S10.at 1 rfl)) rfl rfl Try.runUnderlying101 Try.sizeOf4 (by omega) (mk_get (by omega)) ?_
    intro b12 o13 hat14 row15
    refine w_x rfl (fun w1 h1 => x_load rfl (ld_cell Try.isAgg4 ((row15.le h1) 0 _ rfl))) ?_
    refine w_x rfl (fun w1 h1 => x_load rfl (ld_blk ((S10.step h1).blk 2 rfl) Try.isAgg101 rfl)) ?_
    refine w_x rfl (fun w1 h1 => x_fieldAddr rfl Try.runUnderlying39 rfl Try.sizeOf3 (by decide)) ?_
    refine w_x rfl (fun w1 h1 => x_load rfl (ld_blk ((S10.step h1).blk 4 rfl) Try.isAgg3 rfl)) ?_
    refine w_index EB rfl (vec_rd (S10.at 1 rfl)) rfl rfl Try.runUnderlying101 Try.sizeOf4 (by omega) (mk_get (by omega)) ?_
    intro b16 o17 hat18 row19
    refine w_x rfl (fun w1 h1 => x_load rfl (ld_cell Try.isAgg4 ((row19.le h1) 0 _ rfl))) ?_
    refine w_x rfl (fun w1 h1 => x_bne Try.runUnderlying4 rfl rfl) ?_
    refine w_x rfl (fun w1 h1 => x_mv rfl) ?_
    refine w_split (d := 24) rfl (fun hg24 => ?_) (fun hg24 => ?_)
    · skip
      refine w_x rfl (fun w1 h1 => x_mv rfl) ?_
      refine w_x rfl (fun w1 h1 => x_load rfl (ld_blks ((S10.step h1).blk 4 rfl) Try.isAgg39 Try.sizeOf39 rfl rfl)) ?_
      refine w_x rfl (fun w1 h1 => x_load rfl (ld_blk ((S10.step h1).blk 2 rfl) Try.isAgg101 rfl)) ?_
      refine w_x rfl (fun w1 h1 => x_fieldAddr rfl Try.runUnderlying39 rfl Try.sizeOf3 (by decide)) ?_
      refine w_x rfl (fun w1 h1 => x_load rfl (ld_blk ((S10.step h1).blk 4 rfl) Try.isAgg3 rfl)) ?_
      refine w_index EB rfl (vec_rd (S10.at 1 rfl)) rfl rfl Try.runUnderlying101 Try.sizeOf4 (by omega) (mk_get (by omega)) ?_
      intro b20 o21 hat22 row23
      refine w_x rfl (fun w1 h1 => x_load rfl (ld_cell Try.isAgg4 ((row23.le h1) 0 _ rfl))) ?_
      refine w_nil ?_
      intro w24 hl25
      have S26 := S10.step hl25
      refine l_yield [_, _] rfl rfl rfl (hy (cutl ns (arcs.take i)) r1 a (decide (a.src ∈ ns)) _ hR ⟨_, by rw [cutl_split (i := i + 1), cutl_take ha, cut1, if_pos (by simpa using hg24), List.append_assoc]; rfl⟩ (S26.lend 3 rfl)) ?_
      rintro _ w27 ⟨r30, rfl, hRr30, hback28⟩
      have S29 := S26.back 3 rfl hback28
      refine l_x rfl (x_not rfl) ?_
      refine l_x rfl (x_pick_t rfl rfl) ?_
      refine l_nil ?_
      refine r_false rfl ?_
      refine r_skip ?_
      refine r_inBlock ?_
      refine r_region ?_
      refine l_x rfl (x_add rfl rfl (by omega)) ?_
      refine l_x rfl (x_mv rfl) ?_
      refine l_nil ?_
      exact IH (i + 1, r30) _ _ (by dsimp only; omega) ⟨rfl, rfl, rfl, rfl, rfl, rfl, trivial⟩ ⟨by omega, by rw [cutl_take ha, cut1, if_pos (by simpa using hg24)]; exact hRr30, (S29.take 4)⟩
    · skip
      refine w_pass rfl ?_
      refine w_pass rfl ?_
      refine w_pass rfl ?_
      refine w_pass rfl ?_
      refine w_pass rfl ?_
      refine w_pass rfl ?_
      refine w_pass rfl ?_
      refine w_nil ?_
      intro w32 hl33
      have S34 := S10.step hl33
      refine l_pass rfl ?_
      refine l_pass rfl ?_
      refine l_x rfl (x_pick_f rfl rfl) ?_
      refine l_nil ?_
      refine r_false rfl ?_
      refine r_skip ?_
      refine r_inBlock ?_
      refine r_region ?_
      refine l_x rfl (x_add rfl rfl (by omega)) ?_
      refine l_x rfl (x_mv rfl) ?_
      refine l_nil ?_
      exact IH (i + 1, r1) _ _ (by dsimp only; omega) ⟨rfl, rfl, rfl, rfl, rfl, rfl, trivial⟩ ⟨by omega, by rw [cutl_take ha, cut1, if_neg (by simpa using hg24), List.append_nil]; exact hR, (S34.take 4)⟩
  · skip
    have hi : i = arcs.length := by omega
    subst hi
    rw [List.take_length] at hR
    refine r_exit rfl ?_
    refine r_end (rs := []) [] Try.func128 rfl trivial ?_
    exact ⟨_, hR, S1⟩

/-- couchant/flow.hinders. -/
theorem c_hinders (N : Int) (va : Value) (arcs : List Arc) (A : Int) (vn : Value) (ns : List Int) (hV : Valid N arcs) (hmx : ns.length ≤ 9223372036854775807) (w : World) (hA : Rd EA w va arcs) (Hn : Rd EI w vn ns) :
    Cl Try.prog 77 #[.agg #[.int .i64 N, va], .agg #[.int .i64 A, vn]] w fun v w' => v = .bool (hind N arcs A ns) ∧ Le w w' := by
  have hNx := hV.max
  have hN1 := hV.pos
  have hLx := hV.len
  refine fn_of_run (args := [_, _]) 78 Try.func77 rfl rfl rfl fun cs => ?_
  have S := Own.start (X := nob) w
  refine r_seq ?_
  refine r_region ?_
  refine l_box S rfl rfl ?_
  intro b4 w1 S2 hl3
  refine l_box S2 rfl rfl ?_
  intro b8 w5 S6 hl7
  refine l_x rfl (x_as rfl) ?_
  refine l_nil ?_
  refine r_seq ?_
  refine r_seq ?_
  refine r_region ?_
  refine l_x rfl (x_fieldAddr rfl Try.runUnderlying43 rfl Try.sizeOf3 (by decide)) ?_
  refine l_x rfl (x_load rfl (ld_blk (S6.blk 1 rfl) Try.isAgg3 rfl)) ?_
  refine l_x rfl (x_neq rfl rfl) ?_
  refine l_nil ?_
  refine r_ifd rfl (fun hc13 => ?_) (fun hc13 => ?_)
  · skip
    refine r_seq ?_
    refine r_drawR 31 Try.mixed (by kernel_rfl) ?_
    refine w_x rfl (fun w1 h1 => x_fieldAddr rfl Try.runUnderlying43 rfl Try.sizeOf25 (by decide)) ?_
    refine w_x rfl (fun w1 h1 => x_load rfl (ld_blk ((S6.step h1).blk 1 rfl) Try.isAgg25 rfl)) ?_
    refine w_x rfl (fun w1 h1 => x_len (Hn.le (S6.step h1).le) rfl Try.runUnderlying25) ?_
    refine w_x rfl (fun w1 h1 => x_eql rfl rfl) ?_
    refine w_x rfl (fun w1 h1 => x_mv rfl) ?_
    refine w_splitd (d := 18) rfl (fun hg18 => ?_) (fun hg18 => ?_)
    · skip
      refine w_x rfl (fun w1 h1 => x_fieldAddr rfl Try.runUnderlying43 rfl Try.sizeOf3 (by decide)) ?_
      refine w_x rfl (fun w1 h1 => x_load rfl (ld_blk ((S6.step h1).blk 1 rfl) Try.isAgg3 rfl)) ?_
      refine w_x rfl (fun w1 h1 => x_fieldAddr rfl Try.runUnderlying24 rfl Try.sizeOf22 (by decide)) ?_
      refine w_x rfl (fun w1 h1 => x_load rfl (ld_blk ((S6.step h1).blk 0 rfl) Try.isAgg22 rfl)) ?_
      refine w_x rfl (fun w1 h1 => x_len (hA.le (S6.step h1).le) rfl Try.runUnderlying22) ?_
      refine w_x rfl (fun w1 h1 => x_sub rfl rfl (by omega)) ?_
      refine wd_call [] [] [_, _, _] rfl rfl Try.call64 rfl (fun w1 h1 => c_in _ _ _ _) ?_
      refine w_x rfl (fun w1 h1 => x_pick_t rfl rfl) ?_
      refine w_x rfl (fun w1 h1 => x_mv rfl) ?_
      refine w_splitd (d := 27) rfl (fun hg27 => ?_) (fun hg27 => ?_)
      · skip
        obtain ⟨a, ha⟩ : ∃ a, arcs[A.toNat]? = some a := ⟨_, List.getElem?_eq_getElem (by omega)⟩
        refine w_x rfl (fun w1 h1 => x_fieldAddr rfl Try.runUnderlying24 rfl Try.sizeOf22 (by decide)) ?_
        refine w_x rfl (fun w1 h1 => x_load rfl (ld_blk ((S6.step h1).blk 0 rfl) Try.isAgg22 rfl)) ?_
        refine w_x rfl (fun w1 h1 => x_fieldAddr rfl Try.runUnderlying43 rfl Try.sizeOf3 (by decide)) ?_
        refine w_x rfl (fun w1 h1 => x_load rfl (ld_blk ((S6.step h1).blk 1 rfl) Try.isAgg3 rfl)) ?_
        refine w_index EA rfl (hA.le S6.le) rfl rfl Try.runUnderlying22 Try.sizeOf39 (by omega) (by first | assumption | exact List.getElem?_eq_getElem (by omega)) ?_
        intro b9 o10 hat11 row12
        refine w_x rfl (fun w1 h1 => x_fieldAddr rfl Try.runUnderlying39 rfl Try.sizeOf3 (by decide)) ?_
        refine w_x rfl (fun w1 h1 => x_load rfl (ld_cell Try.isAgg3 ((row12.le h1) 2 _ rfl))) ?_
        refine w_x rfl (fun w1 h1 => x_fieldAddr rfl Try.runUnderlying24 rfl Try.sizeOf22 (by decide)) ?_
        refine w_x rfl (fun w1 h1 => x_load rfl (ld_blk ((S6.step h1).blk 0 rfl) Try.isAgg22 rfl)) ?_
        refine w_x rfl (fun w1 h1 => x_fieldAddr rfl Try.runUnderlying43 rfl Try.sizeOf3 (by decide)) ?_
        refine w_x rfl (fun w1 h1 => x_load rfl (ld_blk ((S6.step h1).blk 1 rfl) Try.isAgg3 rfl)) ?_
        refine w_index EA rfl (hA.le S6.le) rfl rfl Try.runUnderlying22 Try.sizeOf39 (by omega) (by first | assumption | exact List.getElem?_eq_getElem (by omega)) ?_
        intro b13 o14 hat15 row16
        refine w_x rfl (fun w1 h1 => x_fieldAddr rfl Try.runUnderlying39 rfl Try.sizeOf3 (by decide)) ?_
        refine w_x rfl (fun w1 h1 => x_load rfl (ld_cell Try.isAgg3 ((row16.le h1) 3 _ rfl))) ?_
        refine w_x rfl (fun w1 h1 => x_gtr rfl rfl) ?_
        refine w_x rfl (fun w1 h1 => x_pick_t rfl rfl) ?_
        refine w_x rfl (fun w1 h1 => x_as rfl) ?_
        refine w_nil ?_
        intro w17 hl18
        have S19 := S6.step hl18
        refine l_nil ?_
        refine r_ret (rs := [.tmp 4]) [_] Try.func77 rfl ⟨rfl, trivial⟩ ?_
        exact ⟨congrArg Value.bool (by rw [hind, if_pos hc13, bad, ha]; simp [hg18, hg27]), S19.le⟩
      · skip
        refine w_pass rfl ?_
        refine w_pass rfl ?_
        refine w_pass rfl ?_
        refine w_pass rfl ?_
        refine w_pass rfl ?_
        refine w_pass rfl ?_
        refine w_pass rfl ?_
        refine w_pass rfl ?_
        refine w_pass rfl ?_
        refine w_pass rfl ?_
        refine w_pass rfl ?_
        refine w_pass rfl ?_
        refine w_pass rfl ?_
        refine w_pass rfl ?_
        refine w_pass rfl ?_
        refine w_x rfl (fun w1 h1 => x_pick_f rfl rfl) ?_
        refine w_x rfl (fun w1 h1 => x_as rfl) ?_
        refine w_nil ?_
        intro w20 hl21
        have S22 := S6.step hl21
        refine l_nil ?_
        refine r_ret (rs := [.tmp 4]) [_] Try.func77 rfl ⟨rfl, trivial⟩ ?_
        exact ⟨congrArg Value.bool (by rw [hind, if_pos hc13, bad, decide_eq_false hg27]; simp), S22.le⟩
    · skip
      refine w_pass rfl ?_
      refine w_pass rfl ?_
      refine w_pass rfl ?_
      refine w_pass rfl ?_
      refine w_pass rfl ?_
      refine w_pass rfl ?_
      refine w_pass rfl ?_
      refine w_x rfl (fun w1 h1 => x_pick_f rfl rfl) ?_
      refine w_x rfl (fun w1 h1 => x_mv rfl) ?_
      refine w_pass rfl ?_
      refine w_pass rfl ?_
      refine w_pass rfl ?_
      refine w_pass rfl ?_
      refine w_pass rfl ?_
      refine w_pass rfl ?_
      refine w_pass rfl ?_
      refine w_pass rfl ?_
      refine w_pass rfl ?_
      refine w_pass rfl ?_
      refine w_pass rfl ?_
      refine w_pass rfl ?_
      refine w_pass rfl ?_
      refine w_pass rfl ?_
      refine w_pass rfl ?_
      refine w_x rfl (fun w1 h1 => x_pick_f rfl rfl) ?_
      refine w_x rfl (fun w1 h1 => x_as rfl) ?_
      refine w_nil ?_
      intro w23 hl24
      have S25 := S6.step hl24
      refine l_nil ?_
      refine r_ret (rs := [.tmp 4]) [_] Try.func77 rfl ⟨rfl, trivial⟩ ?_
      exact ⟨congrArg Value.bool (by rw [hind, if_pos hc13, decide_eq_false hg18]; rfl), S25.le⟩
  · skip
    refine r_skip ?_
    refine r_seq ?_
    refine r_region ?_
    refine l_x rfl (x_as rfl) ?_
    refine l_nil ?_
    refine r_seq ?_
    refine r_seq ?_
    refine r_region ?_
    refine l_x rfl (x_fieldAddr rfl Try.runUnderlying43 rfl Try.sizeOf25 (by decide)) ?_
    refine l_x rfl (x_load rfl (ld_blk (S6.blk 1 rfl) Try.isAgg25 rfl)) ?_
    refine l_x rfl (x_len (Hn.le S6.le) rfl Try.runUnderlying25) ?_
    refine l_x rfl (x_mv rfl) ?_
    refine l_nil ?_
    refine r_block ?_
    refine r_loop (G := Nat × Int × List Int) (fun ⟨i, last, rest⟩ => ns.length - i) (fun ⟨i, last, rest⟩ => [(2, .pointer (some ⟨b4, 0, none⟩)), (3, .pointer (some ⟨b8, 0, none⟩)), (45, vn), (47, .int .i64 i), (46, .int .i64 ns.length), (5, .int .i64 last)]) (fun ⟨i, last, rest⟩ w' => (i ≤ ns.length) ∧ (ns.drop i = rest) ∧ (asc N (-1) ns = asc N last rest) ∧ (-1 ≤ last ∧ last ≤ 1000) ∧ Own nob w w' [blk b4 [.int .i64 N, va] 24, blk b8 [.int .i64 A, vn] 43]) (0, -1, ns) ⟨rfl, rfl, rfl, rfl, rfl, rfl, trivial⟩ ⟨Nat.zero_le _, List.drop_zero, rfl, by omega, S6⟩ ?_
    rintro ⟨i, last, rest⟩ ρ w1 ⟨hi, hrest, hasc, hlast, S1⟩ IH
    refine r_seq ?_
    refine r_region ?_
    refine l_x rfl (x_lss rfl rfl) ?_
    refine l_nil ?_
    refine r_seq ?_
    refine r_ifd rfl (fun hc48 => ?_) (fun hc48 => ?_)
    · skip
      obtain ⟨v0, hv0⟩ : ∃ v0, ns[i]? = some v0 := ⟨_, List.getElem?_eq_getElem (by omega)⟩
      have hr0 : rest = v0 :: ns.drop (i + 1) := by rw [← hrest, List.drop_eq_getElem_cons (by omega), (List.getElem?_eq_some_iff.1 hv0).2]
      refine r_skip ?_
      refine r_seq ?_
      refine r_block ?_
      refine r_seq ?_
      refine r_region ?_
      refine l_index EI rfl (Hn.le S1.le) rfl rfl Try.runUnderlying25 Try.sizeOf3 (by omega) (by first | assumption | exact List.getElem?_eq_getElem (by omega)) ?_
      intro b26 o27 hat28 row29
      refine l_x rfl (x_load rfl (ld_cell Try.isAgg3 (row29 0 _ rfl))) ?_
      refine l_x rfl (x_as rfl) ?_
      refine l_nil ?_
      refine r_seq ?_
      refine r_seq ?_
      refine r_region ?_
      refine l_x rfl (x_mv rfl) ?_
      refine l_x rfl (x_mv rfl) ?_
      refine l_x rfl (x_add rfl rfl (by omega)) ?_
      refine l_x rfl (x_fieldAddr rfl Try.runUnderlying24 rfl Try.sizeOf3 (by decide)) ?_
      refine l_x rfl (x_load rfl (ld_blk (S1.blk 0 rfl) Try.isAgg3 rfl)) ?_
      refine l_x rfl (x_sub rfl rfl (by omega)) ?_
      refine l_call [] [] [_, _, _] rfl rfl Try.call64 rfl (c_in _ _ _ _) ?_
      rintro _ w30 ⟨rfl, hl32⟩
      have S31 := S1.step hl32
      refine l_x rfl (x_notd rfl) ?_
      refine l_nil ?_
      refine r_ifd rfl (fun hc58 => ?_) (fun hc58 => ?_)
      · skip
        refine r_seq ?_
        refine r_region ?_
        refine l_x rfl (x_as rfl) ?_
        refine l_nil ?_
        refine r_ret (rs := [.tmp 4]) [_] Try.func77 rfl ⟨rfl, trivial⟩ ?_
        exact ⟨congrArg Value.bool (by rw [hind, if_neg hc13, hasc, hr0, asc, decide_eq_false hc58]; rfl), S31.le⟩
      · skip
        refine r_skip ?_
        refine r_region ?_
        refine l_x rfl (x_mv rfl) ?_
        refine l_x rfl (x_as rfl) ?_
        refine l_nil ?_
        refine r_inBlock ?_
        refine r_region ?_
        refine l_x rfl (x_add rfl rfl (by omega)) ?_
        refine l_x rfl (x_mv rfl) ?_
        refine l_nil ?_
        exact IH (i + 1, v0, ns.drop (i + 1)) _ _ (by dsimp only; omega) ⟨rfl, rfl, rfl, rfl, rfl, rfl, trivial⟩ ⟨by omega, rfl, by rw [hasc, hr0, asc, decide_eq_true (Decidable.not_not.1 hc58), Bool.true_and], by omega, S31⟩
    · skip
      have hend : rest = [] := by rw [← hrest, List.drop_eq_nil_of_le (by omega)]
      rw [hend, asc] at hasc
      have hnb : ∀ v ∈ ns, 0 ≤ v ∧ v < N := fun v hv => by have := asc_mem ns (-1) hasc v hv; omega
      refine r_exit rfl ?_
      refine r_seq ?_
      refine r_region ?_
      refine l_alloc S1 rfl Try.zeroValue3 rfl ?_
      intro b36 w33 S34 hl35
      refine l_storeq (c' := [_]) S34 2 rfl rfl rfl rfl rfl Try.sizeOf3 (by simp) rfl ?_
      intro w37 S38 hk39
      refine l_nil ?_
      refine r_seq ?_
      refine r_seq ?_
      refine r_region ?_
      refine l_x rfl (x_load rfl (ld_blks (S38.blk 0 rfl) Try.isAgg24 Try.sizeOf24 rfl rfl)) ?_
      refine l_x rfl (x_fieldAddr rfl Try.runUnderlying43 rfl Try.sizeOf25 (by decide)) ?_
      refine l_x rfl (x_load rfl (ld_blk (S38.blk 1 rfl) Try.isAgg25 rfl)) ?_
      refine l_call [] [] [_, _] rfl rfl Try.call81 rfl (c_cut N va arcs _ ns hV hnb (by omega) _ (Hn.le S38.le)) ?_
      rintro _ w40 ⟨b43, b44, v45, rfl, h42⟩
      have S41 := S38.join h42
      refine l_nil ?_
      refine r_block ?_
      refine r_rangeFunc [] [_, _] S41 rfl rfl Try.call128 ?_
      intro D46 l47 w48 S49 hl50
      have S51 : Own _ _ _ [_, _, _, _, _, _, _, _] := S49.pick [3, 4, 5, 0, 1, 2, 6, 7] (by decide) rfl
      have S52 := Own.pack (A := [_, _, _]) (L := [_, _, _, _, _]) S51
      refine (c_cut1 N va arcs ns hV _ _ _ _ nob w (fun _ h => h.elim) hA (fun t r => r = pack [_, _, blk b36 [.int .i64 (csum t)] 3, _, _]) ?_ _ rfl _ S52).mono ?_
      · skip
        rintro t _ a o w1 rfl ⟨s, hin⟩ hS
        have S53 := hS.open
        have hb := csum_bd_prefix hV hin
        have hok := okArc_iff.1 (hV.ok a (mem_cutl (ns := ns) (o := o) (by rw [hin]; simp)))
        refine yl_of_run (S53.obj 4 rfl) rfl (fun c cs => ?_)
        refine r_seq ?_
        refine r_region ?_
        refine l_alloc S53 rfl Try.zeroValue39 rfl ?_
        intro b57 w54 S55 hl56
        refine l_stores S55 5 rfl rfl rfl rfl (EA.one _) Try.sizeOf39 (by first | exact Nat.le_refl _ | simp) (splice_all rfl) ?_
        intro w58 S59 hk60
        refine l_nil ?_
        refine r_region ?_
        refine l_x rfl (x_as rfl) ?_
        refine l_nil ?_
        refine r_beginRound S59 4 rfl rfl ?_
        intro w61 S62 hk63
        refine r_block ?_
        refine r_seq ?_
        refine r_region ?_
        refine l_x rfl (x_mv rfl) ?_
        refine l_nil ?_
        refine r_if rfl (fun hc67 => ?_) (fun hc67 => ?_)
        · skip
          refine r_region ?_
          refine l_x rfl (x_load rfl (ld_blk (S62.blk 2 rfl) Try.isAgg3 rfl)) ?_
          refine l_x rfl (x_fieldAddr rfl Try.runUnderlying39 rfl Try.sizeOf3 (by decide)) ?_
          refine l_x rfl (x_load rfl (ld_blk (S62.blk 5 rfl) Try.isAgg3 rfl)) ?_
          refine l_x rfl (x_add rfl rfl (by omega)) ?_
          refine l_storeq (c' := [_]) S62 2 rfl rfl rfl rfl rfl Try.sizeOf3 (by simp) rfl ?_
          intro w64 S65 hk66
          refine l_nil ?_
          refine r_inBlock ?_
          refine r_roundEnd S65 4 rfl ?_
          intro w67 S68
          exact ⟨_, rfl, rfl, by rw [csum_snoc, hc67]; exact (S68.take 5).close⟩
        · skip
          refine r_region ?_
          refine l_x rfl (x_load rfl (ld_blk (S62.blk 2 rfl) Try.isAgg3 rfl)) ?_
          refine l_x rfl (x_fieldAddr rfl Try.runUnderlying39 rfl Try.sizeOf3 (by decide)) ?_
          refine l_x rfl (x_load rfl (ld_blk (S62.blk 5 rfl) Try.isAgg3 rfl)) ?_
          refine l_x rfl (x_sub rfl rfl (by omega)) ?_
          refine l_storeq (c' := [_]) S62 2 rfl rfl rfl rfl rfl Try.sizeOf3 (by simp) rfl ?_
          intro w69 S70 hk71
          refine l_nil ?_
          refine r_inBlock ?_
          refine r_roundEnd S70 4 rfl ?_
          intro w72 S73
          exact ⟨_, rfl, rfl, by rw [csum_snoc, hc67]; exact (S73.take 5).close⟩
      rintro _ w74 ⟨_, rfl, hback75⟩
      have S76 := Own.unpack (A := [_, _, _]) (L := [_, _, _, _, _]) hback75
      refine r_endRange S76 7 rfl rfl ?_
      intro w77 S78 hk79
      refine r_inBlock ?_
      refine r_seq ?_
      refine r_region ?_
      refine l_x rfl (x_load rfl (ld_blk (S78.blk 5 rfl) Try.isAgg3 rfl)) ?_
      refine l_x rfl (x_gtr rfl rfl) ?_
      refine l_x rfl (x_as rfl) ?_
      refine l_nil ?_
      refine r_retL rfl ?_
      refine leave_mark S78 6 rfl ?_
      intro w80 S81 hk82
      refine leave_done (rs := [.tmp 4]) [_] Try.func77 rfl ⟨rfl, trivial⟩ ?_
      exact ⟨congrArg Value.bool (by rw [hind, if_neg hc13, hasc, Bool.true_and]), S81.le⟩

/-- couchant/flow.CheckObstacle. -/
theorem c_CheckObstacle (N : Int) (va : Value) (arcs : List Arc) (A : Int) (vn : Value) (ns : List Int) (hmx : ns.length ≤ 9223372036854775807) (w : World) (hA : Rd EA w va arcs) (Hn : Rd EI w vn ns) :
    Cl Try.prog 25 #[.agg #[.int .i64 N, va], .agg #[.int .i64 A, vn]] w fun v w' => v = .tuple #[.bool (decide (chk N arcs = 0) && hind N arcs A ns), .int .i64 (chk N arcs)] ∧ Le w w' := by
  refine fn_of_run (args := [_, _]) 15 Try.func25 rfl rfl rfl fun cs => ?_
  have S := Own.start (X := nob) w
  refine r_seq ?_
  refine r_region ?_
  refine l_box S rfl rfl ?_
  intro b4 w1 S2 hl3
  refine l_box S2 rfl rfl ?_
  intro b8 w5 S6 hl7
  refine l_x rfl (x_as rfl) ?_
  refine l_x rfl (x_as rfl) ?_
  refine l_nil ?_
  refine r_seq ?_
  refine r_seq ?_
  refine r_region ?_
  refine l_x rfl (x_load rfl (ld_blks (S6.blk 0 rfl) Try.isAgg24 Try.sizeOf24 rfl rfl)) ?_
  refine l_call [] [] [_] rfl rfl Try.call36 rfl (c_Check N va arcs _ (hA.le S6.le)) ?_
  rintro _ w9 ⟨rfl, hl11⟩
  have S10 := S6.step hl11
  refine l_x rfl (x_as rfl) ?_
  refine l_nil ?_
  refine r_seq ?_
  refine r_region ?_
  refine l_x rfl (x_mv rfl) ?_
  refine l_x rfl (x_neq rfl rfl) ?_
  refine l_nil ?_
  refine r_ifd rfl (fun hc10 => ?_) (fun hc10 => ?_)
  · skip
    refine r_seq ?_
    refine r_region ?_
    refine l_x rfl (x_mv rfl) ?_
    refine l_x rfl (x_as rfl) ?_
    refine l_x rfl (x_as rfl) ?_
    refine l_nil ?_
    refine r_ret (rs := [.tmp 4, .tmp 5]) [_, _] Try.func25 rfl ⟨rfl, rfl, trivial⟩ ?_
    exact ⟨by show Value.tuple #[.bool false, .int .i64 _] = _; simp [hc10], S10.le⟩
  · skip
    have hV := chk_zero.1 (Decidable.not_not.1 hc10)
    refine r_skip ?_
    refine r_seq ?_
    refine r_region ?_
    refine l_x rfl (x_load rfl (ld_blks (S10.blk 0 rfl) Try.isAgg24 Try.sizeOf24 rfl rfl)) ?_
    refine l_x rfl (x_load rfl (ld_blks (S10.blk 1 rfl) Try.isAgg43 Try.sizeOf43 rfl rfl)) ?_
    refine l_call [] [] [_, _] rfl rfl Try.call77 rfl (c_hinders N va arcs _ _ _ hV (by omega) _ (hA.le S10.le) (Hn.le S10.le)) ?_
    rintro _ w12 ⟨rfl, hl14⟩
    have S13 := S10.step hl14
    refine l_x rfl (x_as rfl) ?_
    refine l_x rfl (x_as rfl) ?_
    refine l_nil ?_
    refine r_ret (rs := [.tmp 4, .tmp 5]) [_, _] Try.func25 rfl ⟨rfl, rfl, trivial⟩ ?_
    have h0 := Decidable.not_not.1 hc10
    exact ⟨by show Value.tuple #[.bool _, .int .i64 0] = _; simp [h0], S13.le⟩

/-- couchant/flow.ObstacleRecords$1. -/
theorem c_ObstacleRecords1 (N : Int) (va : Value) (arcs : List Arc) (A : Int) (vn : Value) (ns : List Int) (b0 b1 : Nat) (hV : Valid N arcs) (hmx : ns.length ≤ 9223372036854775807) (w : World) (h0 : Blk w b0 [.int .i64 N, va] 24) (h1 : Blk w b1 [.int .i64 A, vn] 43) (hA : Rd EA w va arcs) (Hn : Rd EI w vn ns) :
    Cl Try.prog 79 #[.pointer (some ⟨b0, 0, none⟩), .pointer (some ⟨b1, 0, none⟩)] w fun v w' => v = .bool (hind N arcs A ns) ∧ Le w w' := by
  refine fn_of_run (args := [_, _]) 6 Try.func79 rfl rfl rfl fun cs => ?_
  have S := Own.start (X := nob) w
  refine r_seq ?_
  refine r_region ?_
  refine l_x rfl (x_as rfl) ?_
  refine l_nil ?_
  refine r_seq ?_
  refine r_region ?_
  refine l_x rfl (x_load rfl (ld_blks (h0.keep S.le id) Try.isAgg24 Try.sizeOf24 rfl rfl)) ?_
  refine l_x rfl (x_load rfl (ld_blks (h1.keep S.le id) Try.isAgg43 Try.sizeOf43 rfl rfl)) ?_
  refine l_call [] [] [_, _] rfl rfl Try.call77 rfl (c_hinders N va arcs _ _ _ hV (by omega) _ (hA.le S.le) (Hn.le S.le)) ?_
  rintro _ w1 ⟨rfl, hl3⟩
  have S2 := S.step hl3
  refine l_x rfl (x_as rfl) ?_
  refine l_nil ?_
  refine r_ret (rs := [.tmp 2]) [_] Try.func79 rfl ⟨rfl, trivial⟩ ?_
  exact ⟨rfl, S2.le⟩

theorem yl_end6 {X : Nat → Prop} {w w' : World} {A B D O : Rsc} {bo : Nat} {v' : Value} {l' l : List Int} (h : Own X w w' [A, B, blk bo [v'] 25, vec EI v' l', D, O]) (e : l' = l) :
    ∃ r', Value.bool true = .bool true ∧ (∃ v, r' = pack [A, B, blk bo [v] 25, vec EI v l, D, O]) ∧ Own X w w' [r'] := ⟨_, rfl, ⟨v', rfl⟩, by subst e; exact h.close⟩

/-- couchant/flow.ObstacleRecords. -/
theorem c_ObstacleRecords (N : Int) (va : Value) (arcs : List Arc) (A : Int) (vn : Value) (ns : List Int) (hmx : ns.length ≤ 9223372036854775807) (w : World) (hA : Rd EA w va arcs) (Hn : Rd EI w vn ns) :
    Cl Try.prog 27 #[.agg #[.int .i64 N, va], .agg #[.int .i64 A, vn]] w fun v w' => ∃ s, v = .tuple #[s, .int .i64 (askd N arcs (hind N arcs A ns))] ∧ New w w' (vec EI s (if askd N arcs (hind N arcs A ns) = 0 then orec arcs A ns else [])) ∧ Le w w' := by
  refine fn_of_run (args := [_, _]) 60 Try.func27 rfl rfl rfl fun cs => ?_
  have S := Own.start (X := nob) w
  refine r_seq ?_
  refine r_region ?_
  refine l_box S rfl rfl ?_
  intro b4 w1 S2 hl3
  refine l_box S2 rfl rfl ?_
  intro b8 w5 S6 hl7
  refine l_x rfl (x_as rfl) ?_
  refine l_x rfl (x_as rfl) ?_
  refine l_nil ?_
  refine r_seq ?_
  refine r_seq ?_
  refine r_region ?_
  refine l_x rfl (x_load rfl (ld_blks (S6.blk 0 rfl) Try.isAgg24 Try.sizeOf24 rfl rfl)) ?_
  refine l_x rfl (x_func rfl rfl) ?_
  refine l_call [] [] [_, _] rfl rfl Try.call62 rfl (c_asked N va arcs (hind N arcs A ns) 79 [_, _] _ (hA.le S6.le) Try.call79 (fun hv w1 h1 => c_ObstacleRecords1 N va arcs A vn ns _ _ (chk_zero.1 hv) (by omega) w1 ((S6.blk 0 rfl).keep h1 id) ((S6.blk 1 rfl).keep h1 id) (hA.le (S6.le.trans h1)) (Hn.le (S6.le.trans h1)))) ?_
  rintro _ w9 ⟨rfl, hl11⟩
  have S10 := S6.step hl11
  refine l_x rfl (x_as rfl) ?_
  refine l_nil ?_
  refine r_seq ?_
  refine r_region ?_
  refine l_x rfl (x_mv rfl) ?_
  refine l_x rfl (x_neq rfl rfl) ?_
  refine l_nil ?_
  refine r_ifd rfl (fun hc14 => ?_) (fun hc14 => ?_)
  · skip
    refine r_seq ?_
    refine r_region ?_
    refine l_x rfl (x_mv rfl) ?_
    refine l_x rfl (x_as rfl) ?_
    refine l_x rfl (x_as rfl) ?_
    refine l_nil ?_
    refine r_ret (rs := [.tmp 4, .tmp 5]) [_, _] Try.func27 rfl ⟨rfl, rfl, trivial⟩ ?_
    exact ⟨_, rfl, by rw [if_neg hc14]; exact New.nilvec .., S10.le⟩
  · skip
    have h0 := Decidable.not_not.1 hc14
    obtain ⟨hV, hq⟩ := askd_zero.1 h0
    refine r_skip ?_
    refine r_seq ?_
    refine r_seq ?_
    refine r_region ?_
    refine l_x rfl (x_fieldAddr rfl Try.runUnderlying43 rfl Try.sizeOf3 (by decide)) ?_
    refine l_x rfl (x_load rfl (ld_blk (S10.blk 1 rfl) Try.isAgg3 rfl)) ?_
    refine l_x rfl (x_geq rfl rfl) ?_
    refine l_nil ?_
    refine r_ifd rfl (fun hc18 => ?_) (fun hc18 => ?_)
    · skip
      obtain ⟨a, ha, hbad⟩ := hind_bad hq hc18
      refine r_seq ?_
      refine r_drawR 14 Try.mixed (by kernel_rfl) ?_
      refine w_x rfl (fun w1 h1 => x_fieldAddr rfl Try.runUnderlying24 rfl Try.sizeOf22 (by decide)) ?_
      refine w_x rfl (fun w1 h1 => x_load rfl (ld_blk ((S10.step h1).blk 0 rfl) Try.isAgg22 rfl)) ?_
      refine w_x rfl (fun w1 h1 => x_fieldAddr rfl Try.runUnderlying43 rfl Try.sizeOf3 (by decide)) ?_
      refine w_x rfl (fun w1 h1 => x_load rfl (ld_blk ((S10.step h1).blk 1 rfl) Try.isAgg3 rfl)) ?_
      refine w_index EA rfl (hA.le S10.le) rfl rfl Try.runUnderlying22 Try.sizeOf39 (by omega) (by first | assumption | exact List.getElem?_eq_getElem (by omega)) ?_
      intro b12 o13 hat14 row15
      refine w_x rfl (fun w1 h1 => x_fieldAddr rfl Try.runUnderlying39 rfl Try.sizeOf3 (by decide)) ?_
      refine w_x rfl (fun w1 h1 => x_load rfl (ld_cell Try.isAgg3 ((row15.le h1) 4 _ rfl))) ?_
      refine w_x rfl (fun w1 h1 => x_fieldAddr rfl Try.runUnderlying24 rfl Try.sizeOf22 (by decide)) ?_
      refine w_x rfl (fun w1 h1 => x_load rfl (ld_blk ((S10.step h1).blk 0 rfl) Try.isAgg22 rfl)) ?_
      refine w_x rfl (fun w1 h1 => x_fieldAddr rfl Try.runUnderlying43 rfl Try.sizeOf3 (by decide)) ?_
      refine w_x rfl (fun w1 h1 => x_load rfl (ld_blk ((S10.step h1).blk 1 rfl) Try.isAgg3 rfl)) ?_
      refine w_index EA rfl (hA.le S10.le) rfl rfl Try.runUnderlying22 Try.sizeOf39 (by omega) (by first | assumption | exact List.getElem?_eq_getElem (by omega)) ?_
      intro b16 o17 hat18 row19
      refine w_x rfl (fun w1 h1 => x_fieldAddr rfl Try.runUnderlying39 rfl Try.sizeOf3 (by decide)) ?_
      refine w_x rfl (fun w1 h1 => x_load rfl (ld_cell Try.isAgg3 ((row19.le h1) 5 _ rfl))) ?_
      refine w_nil ?_
      intro w20 hl21
      have S22 := S10.step hl21
      refine l_buildSlice EI [_, _] S22 rfl Try.runUnderlying25 Try.sizeOf3 Try.zeroValue3 rfl ⟨rfl, rfl, rfl, rfl, trivial⟩ (Nat.le_of_ble_eq_true rfl) ?_
      intro v26 w23 S24 hl25
      refine l_call [] [] [_] rfl rfl Try.call80 rfl (c_listed _ _ (by first | (have := orecs_len (cutl ns arcs); have := cutl_len ns arcs; have := hV.len; omega) | simp) _ (S24.lend 2 rfl)) ?_
      intro v27 w28 hl30
      have S29 := S24.back 2 rfl hl30
      refine l_x rfl (x_as rfl) ?_
      refine l_x rfl (x_as rfl) ?_
      refine l_nil ?_
      refine r_ret (rs := [.tmp 4, .tmp 5]) [_, _] Try.func27 rfl ⟨rfl, rfl, trivial⟩ ?_
      exact ⟨_, congrArg (fun x => Value.tuple #[_, .int .i64 x]) h0.symm, by rw [if_pos h0, orec, if_pos hc18, ha]; exact S29.new 2 rfl, S29.le⟩
    · skip
      obtain ⟨hA1, hasc, hpos⟩ := hind_cut hq hc18
      have hnb : ∀ v ∈ ns, 0 ≤ v ∧ v < N := fun v hv => by have := asc_mem ns (-1) hasc v hv; omega
      refine r_skip ?_
      refine r_seq ?_
      refine r_region ?_
      refine l_alloc S10 rfl Try.zeroValue25 rfl ?_
      intro b34 w31 S32 hl33
      have S35 := S32.nilvec (E := EI)
      refine l_nil ?_
      refine r_seq ?_
      refine r_seq ?_
      refine r_region ?_
      refine l_x rfl (x_load rfl (ld_blks (S35.blk 0 rfl) Try.isAgg24 Try.sizeOf24 rfl rfl)) ?_
      refine l_x rfl (x_fieldAddr rfl Try.runUnderlying43 rfl Try.sizeOf25 (by decide)) ?_
      refine l_x rfl (x_load rfl (ld_blk (S35.blk 1 rfl) Try.isAgg25 rfl)) ?_
      refine l_call [] [] [_, _] rfl rfl Try.call81 rfl (c_cut N va arcs _ ns hV hnb (by omega) _ (Hn.le S35.le)) ?_
      rintro _ w36 ⟨b39, b40, v41, rfl, h38⟩
      have S37 := S35.join h38
      refine l_nil ?_
      refine r_block ?_
      refine r_rangeFunc [] [_, _] S37 rfl rfl Try.call128 ?_
      intro D42 l43 w44 S45 hl46
      have S47 : Own _ _ _ [_, _, _, _, _, _, _, _, _] := S45.pick [4, 5, 6, 0, 1, 2, 3, 7, 8] (by decide) rfl
      have S48 := Own.pack (A := [_, _, _]) (L := [_, _, _, _, _, _]) S47
      refine (c_cut1 N va arcs ns hV _ _ _ _ nob w (fun _ h => h.elim) hA (fun t r => ∃ v, r = pack [_, _, blk b34 [v] 25, vec EI v (orecs t), _, _]) ?_ _ ⟨_, rfl⟩ _ S48).mono ?_
      · skip
        rintro t _ a o w1 ⟨v0, rfl⟩ ⟨s, hin⟩ hS
        have S49 := hS.open
        have hb := cutl_len ns arcs
        have hLx := hV.len
        have htl : t.length < 4000 := by rw [hin] at hb; simp at hb; omega
        refine yl_of_run (S49.obj 5 rfl) rfl (fun c cs => ?_)
        refine r_seq ?_
        refine r_region ?_
        refine l_alloc S49 rfl Try.zeroValue39 rfl ?_
        intro b53 w50 S51 hl52
        refine l_stores S51 6 rfl rfl rfl rfl (EA.one _) Try.sizeOf39 (by first | exact Nat.le_refl _ | simp) (splice_all rfl) ?_
        intro w54 S55 hk56
        refine l_nil ?_
        refine r_region ?_
        refine l_x rfl (x_as rfl) ?_
        refine l_nil ?_
        refine r_beginRound S55 5 rfl rfl ?_
        intro w57 S58 hk59
        refine r_block ?_
        refine r_block ?_
        refine r_seq ?_
        refine r_region ?_
        refine l_x rfl (x_mv rfl) ?_
        refine l_x rfl (x_not rfl) ?_
        refine l_x rfl (x_as rfl) ?_
        refine l_nil ?_
        refine r_if rfl (fun hc41 => ?_) (fun hc41 => ?_)
        · skip
          have hc41 : o = false := by simpa using hc41
          refine r_region ?_
          refine l_x rfl (x_load rfl (ld_blk (S58.blk 2 rfl) Try.isAgg25 rfl)) ?_
          refine l_x rfl (x_fieldAddr rfl Try.runUnderlying39 rfl Try.sizeOf3 (by decide)) ?_
          refine l_x rfl (x_load rfl (ld_blk (S58.blk 6 rfl) Try.isAgg3 rfl)) ?_
          refine l_buildSlice EI [_] S58 rfl Try.runUnderlying25 Try.sizeOf3 Try.zeroValue3 rfl ⟨rfl, rfl, trivial⟩ (Nat.le_of_ble_eq_true rfl) ?_
          intro v63 w60 S61 hl62
          refine l_append EI S61 3 rfl rfl rfl rfl (vec_rd (S61.at 7 rfl)) Try.underlying25 info3 rfl rfl rfl (by have := orecs_len t; unfold maxLen; simp; omega) (by have := orecs_len t; show _ * 8 ≤ _; simp; omega) ?_
          intro v67 w64 S65 hk66 hv68
          refine l_storeq (c' := [_]) (v := v67) S65 2 rfl rfl rfl rfl (Rd.one (vec_rd (S65.at 3 rfl))) Try.sizeOf25 (by simp) rfl ?_
          intro w69 S70 hk71
          refine l_nil ?_
          refine r_inBlock ?_
          refine r_inBlock ?_
          refine r_roundEnd S70 5 rfl ?_
          intro w72 S73
          exact yl_end6 (S73.take 6) (by rw [hc41, orecs_snoc]; rfl)
        · skip
          have hc41 : o = true := by simpa using hc41
          refine r_seq ?_
          refine r_region ?_
          refine l_x rfl (x_fieldAddr rfl Try.runUnderlying39 rfl Try.sizeOf3 (by decide)) ?_
          refine l_x rfl (x_load rfl (ld_blk (S58.blk 6 rfl) Try.isAgg3 rfl)) ?_
          refine l_x rfl (x_gtr rfl rfl) ?_
          refine l_x rfl (x_as rfl) ?_
          refine l_nil ?_
          refine r_ifd rfl (fun hc49 => ?_) (fun hc49 => ?_)
          · skip
            refine r_region ?_
            refine l_x rfl (x_load rfl (ld_blk (S58.blk 2 rfl) Try.isAgg25 rfl)) ?_
            refine l_x rfl (x_fieldAddr rfl Try.runUnderlying39 rfl Try.sizeOf3 (by decide)) ?_
            refine l_x rfl (x_load rfl (ld_blk (S58.blk 6 rfl) Try.isAgg3 rfl)) ?_
            refine l_buildSlice EI [_] S58 rfl Try.runUnderlying25 Try.sizeOf3 Try.zeroValue3 rfl ⟨rfl, rfl, trivial⟩ (Nat.le_of_ble_eq_true rfl) ?_
            intro v77 w74 S75 hl76
            refine l_append EI S75 3 rfl rfl rfl rfl (vec_rd (S75.at 7 rfl)) Try.underlying25 info3 rfl rfl rfl (by have := orecs_len t; unfold maxLen; simp; omega) (by have := orecs_len t; show _ * 8 ≤ _; simp; omega) ?_
            intro v81 w78 S79 hk80 hv82
            refine l_storeq (c' := [_]) (v := v81) S79 2 rfl rfl rfl rfl (Rd.one (vec_rd (S79.at 3 rfl))) Try.sizeOf25 (by simp) rfl ?_
            intro w83 S84 hk85
            refine l_nil ?_
            refine r_inBlock ?_
            refine r_inBlock ?_
            refine r_roundEnd S84 5 rfl ?_
            intro w86 S87
            exact yl_end6 (S87.take 6) (by rw [hc41, orecs_snoc, Bool.not_true, rec1, if_pos hc49])
          · skip
            refine r_skip ?_
            refine r_inBlock ?_
            refine r_inBlock ?_
            refine r_roundEnd S58 5 rfl ?_
            intro w88 S89
            exact yl_end6 (S89.take 6) (by rw [hc41, orecs_snoc, Bool.not_true, rec1, if_neg hc49, List.append_nil])
      rintro _ w90 ⟨_, ⟨v9, rfl⟩, hback91⟩
      have S92 := Own.unpack (A := [_, _, _]) (L := [_, _, _, _, _, _]) hback91
      refine r_endRange S92 8 rfl rfl ?_
      intro w93 S94 hk95
      refine r_inBlock ?_
      refine r_seq ?_
      refine r_region ?_
      refine l_x rfl (x_load rfl (ld_blk (S94.blk 5 rfl) Try.isAgg25 rfl)) ?_
      refine l_call [] [] [_] rfl rfl Try.call80 rfl (c_listed _ _ (by first | (have := orecs_len (cutl ns arcs); have := cutl_len ns arcs; have := hV.len; omega) | simp) _ (S94.lend 6 rfl)) ?_
      intro v96 w97 hl99
      have S98 := S94.back 6 rfl hl99
      refine l_x rfl (x_as rfl) ?_
      refine l_x rfl (x_as rfl) ?_
      refine l_nil ?_
      refine r_retL rfl ?_
      refine leave_mark S98 7 rfl ?_
      intro w100 S101 hk102
      refine leave_done (rs := [.tmp 4, .tmp 5]) [_, _] Try.func27 rfl ⟨rfl, rfl, trivial⟩ ?_
      exact ⟨_, congrArg (fun x => Value.tuple #[_, .int .i64 x]) h0.symm, by rw [if_pos h0, orec, if_neg hc18]; exact S101.new 6 rfl, S101.le⟩

end Go.Proofs
