/-
  Contracts of functions of the program: each by symbolic execution of its text.
-/
import Derived.Test.YtddapgjjndbejaaFacts
namespace Go.Proofs
open Go Go.Vk Go.Vk.Flow

/-- couchant/flow.in. -/
theorem c_in (a l m : Int) (w : World) :
    Cl Try.prog 64 #[.int .i64 a, .int .i64 l, .int .i64 m] w fun v w' => v = .bool (decide (l ≤ a ∧ a ≤ m)) ∧ Le w w' := by
  refine fn_of_run (args := [_, _, _]) 15 Try.func64 rfl rfl rfl fun cs => ?_
  have S := Own.start (X := nob) w
  refine r_seq ?_
  refine r_region ?_
  refine l_x rfl (x_as rfl) ?_
  refine l_nil ?_
  refine r_seq ?_
  refine r_region ?_
  refine l_x rfl (x_mv rfl) ?_
  refine l_x rfl (x_mv rfl) ?_
  refine l_x rfl (x_geq rfl rfl) ?_
  refine l_x rfl (x_mv rfl) ?_
  refine l_splitd (d := 10) rfl (fun hg10 => ?_) (fun hg10 => ?_)
  · skip
    refine l_x rfl (x_mv rfl) ?_
    refine l_x rfl (x_mv rfl) ?_
    refine l_x rfl (x_leq rfl rfl) ?_
    refine l_x rfl (x_pick_t rfl rfl) ?_
    refine l_x rfl (x_as rfl) ?_
    refine l_nil ?_
    refine r_ret (rs := [.tmp 6]) [_] Try.func64 rfl ⟨rfl, trivial⟩ ?_
    exact ⟨congrArg Value.bool (by first | (apply decE; omega) | (apply decF; omega)), S.le⟩
  · skip
    refine l_pass rfl ?_
    refine l_pass rfl ?_
    refine l_pass rfl ?_
    refine l_x rfl (x_pick_f rfl rfl) ?_
    refine l_x rfl (x_as rfl) ?_
    refine l_nil ?_
    refine r_ret (rs := [.tmp 6]) [_] Try.func64 rfl ⟨rfl, trivial⟩ ?_
    exact ⟨congrArg Value.bool (by first | (apply decE; omega) | (apply decF; omega)), S.le⟩

/-- couchant/flow.Check$1. -/
theorem c_Check1 (N : Int) (a : Arc) (va : Value) (bg : Nat) (hN : 1 ≤ N ∧ N ≤ 1000) (w : World) (hG : Blk w bg [.int .i64 N, va] 24) :
    Cl Try.prog 95 #[.agg a.enc.toArray, .pointer (some ⟨bg, 0, none⟩)] w fun v w' => v = .bool (!okArc N a) ∧ Le w w' := by
  refine fn_of_run (args := [_, _]) 45 Try.func95 rfl rfl rfl fun cs => ?_
  have S := Own.start (X := nob) w
  refine r_seq ?_
  refine r_region ?_
  refine l_box S rfl rfl ?_
  intro b4 w1 S2 hl3
  refine l_x rfl (x_as rfl) ?_
  refine l_nil ?_
  refine r_seq ?_
  refine r_region ?_
  refine l_x rfl (x_fieldAddr rfl Try.runUnderlying39 rfl Try.sizeOf3 (by decide)) ?_
  refine l_x rfl (x_load rfl (ld_blk (S2.blk 0 rfl) Try.isAgg3 rfl)) ?_
  refine l_x rfl (x_fieldAddr rfl Try.runUnderlying24 rfl Try.sizeOf3 (by decide)) ?_
  refine l_x rfl (x_load rfl (ld_blk (hG.keep S2.le id) Try.isAgg3 rfl)) ?_
  refine l_x rfl (x_sub rfl rfl (by omega)) ?_
  refine l_call [] [] [_, _, _] rfl rfl Try.call64 rfl (c_in _ _ _ _) ?_
  rintro _ w5 ⟨rfl, hl7⟩
  have S6 := S2.step hl7
  refine l_x rfl (x_mv rfl) ?_
  refine l_splitd (d := 11) rfl (fun hg11 => ?_) (fun hg11 => ?_)
  · skip
    refine l_x rfl (x_fieldAddr rfl Try.runUnderlying39 rfl Try.sizeOf3 (by decide)) ?_
    refine l_x rfl (x_load rfl (ld_blk (S6.blk 0 rfl) Try.isAgg3 rfl)) ?_
    refine l_x rfl (x_fieldAddr rfl Try.runUnderlying24 rfl Try.sizeOf3 (by decide)) ?_
    refine l_x rfl (x_load rfl (ld_blk (hG.keep S6.le id) Try.isAgg3 rfl)) ?_
    refine l_x rfl (x_sub rfl rfl (by omega)) ?_
    refine l_call [] [] [_, _, _] rfl rfl Try.call64 rfl (c_in _ _ _ _) ?_
    rintro _ w8 ⟨rfl, hl10⟩
    have S9 := S6.step hl10
    refine l_x rfl (x_pick_t rfl rfl) ?_
    refine l_x rfl (x_as rfl) ?_
    refine l_nil ?_
    refine r_seq ?_
    refine r_region ?_
    refine l_x rfl (x_mv rfl) ?_
    refine l_x rfl (x_notd rfl) ?_
    refine l_x rfl (x_mv rfl) ?_
    refine l_splitd (d := 21) rfl (fun hg21 => ?_) (fun hg21 => ?_)
    · skip
      refine l_pass rfl ?_
      refine l_pass rfl ?_
      refine l_pass rfl ?_
      refine l_pass rfl ?_
      refine l_x rfl (x_pick_t rfl rfl) ?_
      refine l_x rfl (x_mv rfl) ?_
      refine l_pass rfl ?_
      refine l_pass rfl ?_
      refine l_pass rfl ?_
      refine l_pass rfl ?_
      refine l_x rfl (x_pick_t rfl rfl) ?_
      refine l_x rfl (x_mv rfl) ?_
      refine l_pass rfl ?_
      refine l_pass rfl ?_
      refine l_pass rfl ?_
      refine l_pass rfl ?_
      refine l_x rfl (x_pick_t rfl rfl) ?_
      refine l_x rfl (x_mv rfl) ?_
      refine l_pass rfl ?_
      refine l_pass rfl ?_
      refine l_pass rfl ?_
      refine l_pass rfl ?_
      refine l_x rfl (x_pick_t rfl rfl) ?_
      refine l_x rfl (x_as rfl) ?_
      refine l_nil ?_
      refine r_ret (rs := [.tmp 3]) [_] Try.func95 rfl ⟨rfl, trivial⟩ ?_
      exact ⟨congrArg Value.bool (by simp only [okArc, ← decide_not]; first | (apply decT; omega) | (apply decE; omega)), S9.le⟩
    · skip
      refine l_x rfl (x_fieldAddr rfl Try.runUnderlying39 rfl Try.sizeOf3 (by decide)) ?_
      refine l_x rfl (x_load rfl (ld_blk (S9.blk 0 rfl) Try.isAgg3 rfl)) ?_
      refine l_call [] [] [_, _, _] rfl rfl Try.call64 rfl (c_in _ _ _ _) ?_
      rintro _ w11 ⟨rfl, hl13⟩
      have S12 := S9.step hl13
      refine l_x rfl (x_notd rfl) ?_
      refine l_x rfl (x_pick_f rfl rfl) ?_
      refine l_x rfl (x_mv rfl) ?_
      refine l_splitd (d := 27) rfl (fun hg27 => ?_) (fun hg27 => ?_)
      · skip
        refine l_pass rfl ?_
        refine l_pass rfl ?_
        refine l_pass rfl ?_
        refine l_pass rfl ?_
        refine l_x rfl (x_pick_t rfl rfl) ?_
        refine l_x rfl (x_mv rfl) ?_
        refine l_pass rfl ?_
        refine l_pass rfl ?_
        refine l_pass rfl ?_
        refine l_pass rfl ?_
        refine l_x rfl (x_pick_t rfl rfl) ?_
        refine l_x rfl (x_mv rfl) ?_
        refine l_pass rfl ?_
        refine l_pass rfl ?_
        refine l_pass rfl ?_
        refine l_pass rfl ?_
        refine l_x rfl (x_pick_t rfl rfl) ?_
        refine l_x rfl (x_as rfl) ?_
        refine l_nil ?_
        refine r_ret (rs := [.tmp 3]) [_] Try.func95 rfl ⟨rfl, trivial⟩ ?_
        exact ⟨congrArg Value.bool (by simp only [okArc, ← decide_not]; first | (apply decT; omega) | (apply decE; omega)), S12.le⟩
      · skip
        refine l_x rfl (x_fieldAddr rfl Try.runUnderlying39 rfl Try.sizeOf3 (by decide)) ?_
        refine l_x rfl (x_load rfl (ld_blk (S12.blk 0 rfl) Try.isAgg3 rfl)) ?_
        refine l_call [] [] [_, _, _] rfl rfl Try.call64 rfl (c_in _ _ _ _) ?_
        rintro _ w14 ⟨rfl, hl16⟩
        have S15 := S12.step hl16
        refine l_x rfl (x_notd rfl) ?_
        refine l_x rfl (x_pick_f rfl rfl) ?_
        refine l_x rfl (x_mv rfl) ?_
        refine l_splitd (d := 33) rfl (fun hg33 => ?_) (fun hg33 => ?_)
        · skip
          refine l_pass rfl ?_
          refine l_pass rfl ?_
          refine l_pass rfl ?_
          refine l_pass rfl ?_
          refine l_x rfl (x_pick_t rfl rfl) ?_
          refine l_x rfl (x_mv rfl) ?_
          refine l_pass rfl ?_
          refine l_pass rfl ?_
          refine l_pass rfl ?_
          refine l_pass rfl ?_
          refine l_x rfl (x_pick_t rfl rfl) ?_
          refine l_x rfl (x_as rfl) ?_
          refine l_nil ?_
          refine r_ret (rs := [.tmp 3]) [_] Try.func95 rfl ⟨rfl, trivial⟩ ?_
          exact ⟨congrArg Value.bool (by simp only [okArc, ← decide_not]; first | (apply decT; omega) | (apply decE; omega)), S15.le⟩
        · skip
          refine l_x rfl (x_fieldAddr rfl Try.runUnderlying39 rfl Try.sizeOf3 (by decide)) ?_
          refine l_x rfl (x_load rfl (ld_blk (S15.blk 0 rfl) Try.isAgg3 rfl)) ?_
          refine l_call [] [] [_, _, _] rfl rfl Try.call64 rfl (c_in _ _ _ _) ?_
          rintro _ w17 ⟨rfl, hl19⟩
          have S18 := S15.step hl19
          refine l_x rfl (x_notd rfl) ?_
          refine l_x rfl (x_pick_f rfl rfl) ?_
          refine l_x rfl (x_mv rfl) ?_
          refine l_splitd (d := 39) rfl (fun hg39 => ?_) (fun hg39 => ?_)
          · skip
            refine l_pass rfl ?_
            refine l_pass rfl ?_
            refine l_pass rfl ?_
            refine l_pass rfl ?_
            refine l_x rfl (x_pick_t rfl rfl) ?_
            refine l_x rfl (x_as rfl) ?_
            refine l_nil ?_
            refine r_ret (rs := [.tmp 3]) [_] Try.func95 rfl ⟨rfl, trivial⟩ ?_
            exact ⟨congrArg Value.bool (by simp only [okArc, ← decide_not]; first | (apply decT; omega) | (apply decE; omega)), S18.le⟩
          · skip
            refine l_x rfl (x_fieldAddr rfl Try.runUnderlying39 rfl Try.sizeOf3 (by decide)) ?_
            refine l_x rfl (x_load rfl (ld_blk (S18.blk 0 rfl) Try.isAgg3 rfl)) ?_
            refine l_call [] [] [_, _, _] rfl rfl Try.call64 rfl (c_in _ _ _ _) ?_
            rintro _ w20 ⟨rfl, hl22⟩
            have S21 := S18.step hl22
            refine l_x rfl (x_notd rfl) ?_
            refine l_x rfl (x_pick_f rfl rfl) ?_
            refine l_x rfl (x_as rfl) ?_
            refine l_nil ?_
            refine r_ret (rs := [.tmp 3]) [_] Try.func95 rfl ⟨rfl, trivial⟩ ?_
            exact ⟨congrArg Value.bool (by simp only [okArc, ← decide_not]; first | (apply decT; omega) | (apply decE; omega)), S21.le⟩
  · skip
    refine l_pass rfl ?_
    refine l_pass rfl ?_
    refine l_pass rfl ?_
    refine l_pass rfl ?_
    refine l_pass rfl ?_
    refine l_pass rfl ?_
    refine l_x rfl (x_pick_f rfl rfl) ?_
    refine l_x rfl (x_as rfl) ?_
    refine l_nil ?_
    refine r_seq ?_
    refine r_region ?_
    refine l_x rfl (x_mv rfl) ?_
    refine l_x rfl (x_not rfl) ?_
    refine l_x rfl (x_mv rfl) ?_
    refine l_pass rfl ?_
    refine l_pass rfl ?_
    refine l_pass rfl ?_
    refine l_pass rfl ?_
    refine l_x rfl (x_pick_t rfl rfl) ?_
    refine l_x rfl (x_mv rfl) ?_
    refine l_pass rfl ?_
    refine l_pass rfl ?_
    refine l_pass rfl ?_
    refine l_pass rfl ?_
    refine l_x rfl (x_pick_t rfl rfl) ?_
    refine l_x rfl (x_mv rfl) ?_
    refine l_pass rfl ?_
    refine l_pass rfl ?_
    refine l_pass rfl ?_
    refine l_pass rfl ?_
    refine l_x rfl (x_pick_t rfl rfl) ?_
    refine l_x rfl (x_mv rfl) ?_
    refine l_pass rfl ?_
    refine l_pass rfl ?_
    refine l_pass rfl ?_
    refine l_pass rfl ?_
    refine l_x rfl (x_pick_t rfl rfl) ?_
    refine l_x rfl (x_as rfl) ?_
    refine l_nil ?_
    refine r_ret (rs := [.tmp 3]) [_] Try.func95 rfl ⟨rfl, trivial⟩ ?_
    exact ⟨congrArg Value.bool (by simp only [okArc, ← decide_not]; first | (apply decT; omega) | (apply decE; omega)), S6.le⟩

/-- slices.IndexFunc[[]couchant/api.Arc,couchant/api.Arc]. -/
theorem c_IndexFuncArc (va : Value) (l : List Arc) (p : Arc → Bool) (kf : Nat) (caps : List Value) (hmx : l.length ≤ 9223372036854775807) (w : World) (hA : Rd EA w va l) (he : ∀ args w, (callFunc kf args).run Try.prog w = .ok (.enter kf args) w)
    (hf : ∀ x ∈ l, ∀ w1, Le w w1 → Cl Try.prog kf ([Value.agg x.enc.toArray] ++ caps).toArray w1 fun v w2 => v = .bool (p x) ∧ Le w1 w2) :
    Cl Try.prog 129 #[va, .func (.func kf) #[] caps.toArray] w fun v w' => v = .int .i64 (idx p l) ∧ Le w w' := by
  refine fn_of_run (args := [_, _]) 19 Try.func129 rfl rfl rfl fun cs => ?_
  have S := Own.start (X := nob) w
  refine r_seq ?_
  refine r_region ?_
  refine l_x rfl (x_as rfl) ?_
  refine l_nil ?_
  refine r_seq ?_
  refine r_seq ?_
  refine r_region ?_
  refine l_x rfl (x_mv rfl) ?_
  refine l_x rfl (x_len (hA.le S.le) rfl Try.runUnderlying22) ?_
  refine l_x rfl (x_mv rfl) ?_
  refine l_nil ?_
  refine r_block ?_
  refine r_loop (G := Nat) (fun i => l.length - i) (fun i => [(0, va), (1, .func (.func kf) #[] caps.toArray), (8, .int .i64 i), (7, .int .i64 l.length)]) (fun i w' => (i ≤ l.length) ∧ (∀ x ∈ l.take i, p x = false) ∧ Own nob w w' []) 0 ⟨rfl, rfl, rfl, rfl, trivial⟩ ⟨Nat.zero_le _, by simp, S⟩ ?_
  rintro i ρ w1 ⟨hi, hno, S1⟩ IH
  refine r_seq ?_
  refine r_region ?_
  refine l_x rfl (x_lss rfl rfl) ?_
  refine l_nil ?_
  refine r_seq ?_
  refine r_ifd rfl (fun hc9 => ?_) (fun hc9 => ?_)
  · skip
    have ha : l[i]? = some l[i] := List.getElem?_eq_getElem (by omega)
    refine r_skip ?_
    refine r_seq ?_
    refine r_block ?_
    refine r_seq ?_
    refine r_region ?_
    refine l_x rfl (x_mv rfl) ?_
    refine l_x rfl (x_as rfl) ?_
    refine l_nil ?_
    refine r_seq ?_
    refine r_region ?_
    refine l_x rfl (x_mv rfl) ?_
    refine l_x rfl (x_mv rfl) ?_
    refine l_x rfl (x_mv rfl) ?_
    refine l_index EA rfl (hA.le S1.le) rfl rfl Try.runUnderlying22 Try.sizeOf39 (by omega) (by first | assumption | exact List.getElem?_eq_getElem (by omega)) ?_
    intro b1 o2 hat3 row4
    refine l_x rfl (x_load rfl (ld_row Try.isAgg39 Try.sizeOf39 rfl row4)) ?_
    refine l_call [] caps ([_] ++ caps) rfl rfl he rfl (hf _ (List.mem_of_getElem? ha) _ S1.le) ?_
    rintro _ w5 ⟨rfl, hl7⟩
    have S6 := S1.step hl7
    refine l_nil ?_
    refine r_if rfl (fun hc16 => ?_) (fun hc16 => ?_)
    · skip
      refine r_seq ?_
      refine r_region ?_
      refine l_x rfl (x_mv rfl) ?_
      refine l_x rfl (x_as rfl) ?_
      refine l_nil ?_
      refine r_ret (rs := [.tmp 4]) [_] Try.func129 rfl ⟨rfl, trivial⟩ ?_
      exact ⟨congrArg (Value.int .i64) (idx_at ha hc16 hno).symm, S6.le⟩
    · skip
      have hno' : ∀ x ∈ l.take (i + 1), p x = false := by
        intro x hx
        rw [List.take_add_one, ha] at hx
        rcases List.mem_append.1 hx with h | h
        · exact hno x h
        · simp at h; subst h; exact hc16
      refine r_skip ?_
      refine r_inBlock ?_
      refine r_region ?_
      refine l_x rfl (x_add rfl rfl (by omega)) ?_
      refine l_x rfl (x_mv rfl) ?_
      refine l_nil ?_
      exact IH (i + 1) _ _ (by omega) ⟨rfl, rfl, rfl, rfl, trivial⟩ ⟨by omega, hno', S6⟩
  · skip
    have hi : i = l.length := by omega
    subst hi
    refine r_exit rfl ?_
    refine r_seq ?_
    refine r_region ?_
    refine l_x rfl (x_as rfl) ?_
    refine l_nil ?_
    refine r_ret (rs := [.tmp 4]) [_] Try.func129 rfl ⟨rfl, trivial⟩ ?_
    exact ⟨congrArg (Value.int .i64) (idx_none (by rwa [List.take_length] at hno)).symm, S1.le⟩

/-- slices.ContainsFunc[[]couchant/api.Arc,couchant/api.Arc]. -/
theorem c_ContainsFuncArc (va : Value) (l : List Arc) (p : Arc → Bool) (kf : Nat) (caps : List Value) (hmx : l.length ≤ 9223372036854775807) (w : World) (hA : Rd EA w va l) (he : ∀ args w, (callFunc kf args).run Try.prog w = .ok (.enter kf args) w)
    (hf : ∀ x ∈ l, ∀ w1, Le w w1 → Cl Try.prog kf ([Value.agg x.enc.toArray] ++ caps).toArray w1 fun v w2 => v = .bool (p x) ∧ Le w1 w2) :
    Cl Try.prog 94 #[va, .func (.func kf) #[] caps.toArray] w fun v w' => v = .bool (l.any p) ∧ Le w w' := by
  refine fn_of_run (args := [_, _]) 9 Try.func94 rfl rfl rfl fun cs => ?_
  have S := Own.start (X := nob) w
  refine r_seq ?_
  refine r_region ?_
  refine l_x rfl (x_as rfl) ?_
  refine l_nil ?_
  refine r_seq ?_
  refine r_region ?_
  refine l_x rfl (x_mv rfl) ?_
  refine l_x rfl (x_mv rfl) ?_
  refine l_call [] [] [_, _] rfl rfl Try.call129 rfl (c_IndexFuncArc _ _ p kf caps hmx _ (hA.le S.le) he (fun x hx w1 h1 => hf x hx w1 (S.le.trans h1))) ?_
  rintro _ w1 ⟨rfl, hl3⟩
  have S2 := S.step hl3
  refine l_x rfl (x_geq rfl rfl) ?_
  refine l_x rfl (x_as rfl) ?_
  refine l_nil ?_
  refine r_ret (rs := [.tmp 4]) [_] Try.func94 rfl ⟨rfl, trivial⟩ ?_
  exact ⟨congrArg Value.bool (Bool.eq_iff_iff.2 (by rw [decide_eq_true_iff]; exact idx_ge p l)), S2.le⟩

/-- slices.IndexFunc[[]int,int]. -/
theorem c_IndexFuncInt (va : Value) (l : List Int) (p : Int → Bool) (kf : Nat) (caps : List Value) (hmx : l.length ≤ 9223372036854775807) (w : World) (hA : Rd EI w va l) (he : ∀ args w, (callFunc kf args).run Try.prog w = .ok (.enter kf args) w)
    (hf : ∀ x ∈ l, ∀ w1, Le w w1 → Cl Try.prog kf ([Value.int .i64 x] ++ caps).toArray w1 fun v w2 => v = .bool (p x) ∧ Le w1 w2) :
    Cl Try.prog 117 #[va, .func (.func kf) #[] caps.toArray] w fun v w' => v = .int .i64 (idx p l) ∧ Le w w' := by
  refine fn_of_run (args := [_, _]) 19 Try.func117 rfl rfl rfl fun cs => ?_
  have S := Own.start (X := nob) w
  refine r_seq ?_
  refine r_region ?_
  refine l_x rfl (x_as rfl) ?_
  refine l_nil ?_
  refine r_seq ?_
  refine r_seq ?_
  refine r_region ?_
  refine l_x rfl (x_mv rfl) ?_
  refine l_x rfl (x_len (hA.le S.le) rfl Try.runUnderlying25) ?_
  refine l_x rfl (x_mv rfl) ?_
  refine l_nil ?_
  refine r_block ?_
  refine r_loop (G := Nat) (fun i => l.length - i) (fun i => [(0, va), (1, .func (.func kf) #[] caps.toArray), (8, .int .i64 i), (7, .int .i64 l.length)]) (fun i w' => (i ≤ l.length) ∧ (∀ x ∈ l.take i, p x = false) ∧ Own nob w w' []) 0 ⟨rfl, rfl, rfl, rfl, trivial⟩ ⟨Nat.zero_le _, by simp, S⟩ ?_
  rintro i ρ w1 ⟨hi, hno, S1⟩ IH
  refine r_seq ?_
  refine r_region ?_
  refine l_x rfl (x_lss rfl rfl) ?_
  refine l_nil ?_
  refine r_seq ?_
  refine r_ifd rfl (fun hc9 => ?_) (fun hc9 => ?_)
  · skip
    have ha : l[i]? = some l[i] := List.getElem?_eq_getElem (by omega)
    refine r_skip ?_
    refine r_seq ?_
    refine r_block ?_
    refine r_seq ?_
    refine r_region ?_
    refine l_x rfl (x_mv rfl) ?_
    refine l_x rfl (x_as rfl) ?_
    refine l_nil ?_
    refine r_seq ?_
    refine r_region ?_
    refine l_x rfl (x_mv rfl) ?_
    refine l_x rfl (x_mv rfl) ?_
    refine l_x rfl (x_mv rfl) ?_
    refine l_index EI rfl (hA.le S1.le) rfl rfl Try.runUnderlying25 Try.sizeOf3 (by omega) (by first | assumption | exact List.getElem?_eq_getElem (by omega)) ?_
    intro b1 o2 hat3 row4
    refine l_x rfl (x_load rfl (ld_cell Try.isAgg3 (row4 0 _ rfl))) ?_
    refine l_call [] caps ([_] ++ caps) rfl rfl he rfl (hf _ (List.mem_of_getElem? ha) _ S1.le) ?_
    rintro _ w5 ⟨rfl, hl7⟩
    have S6 := S1.step hl7
    refine l_nil ?_
    refine r_if rfl (fun hc16 => ?_) (fun hc16 => ?_)
    · skip
      refine r_seq ?_
      refine r_region ?_
      refine l_x rfl (x_mv rfl) ?_
      refine l_x rfl (x_as rfl) ?_
      refine l_nil ?_
      refine r_ret (rs := [.tmp 4]) [_] Try.func117 rfl ⟨rfl, trivial⟩ ?_
      exact ⟨congrArg (Value.int .i64) (idx_at ha hc16 hno).symm, S6.le⟩
    · skip
      have hno' : ∀ x ∈ l.take (i + 1), p x = false := by
        intro x hx
        rw [List.take_add_one, ha] at hx
        rcases List.mem_append.1 hx with h | h
        · exact hno x h
        · simp at h; subst h; exact hc16
      refine r_skip ?_
      refine r_inBlock ?_
      refine r_region ?_
      refine l_x rfl (x_add rfl rfl (by omega)) ?_
      refine l_x rfl (x_mv rfl) ?_
      refine l_nil ?_
      exact IH (i + 1) _ _ (by omega) ⟨rfl, rfl, rfl, rfl, trivial⟩ ⟨by omega, hno', S6⟩
  · skip
    have hi : i = l.length := by omega
    subst hi
    refine r_exit rfl ?_
    refine r_seq ?_
    refine r_region ?_
    refine l_x rfl (x_as rfl) ?_
    refine l_nil ?_
    refine r_ret (rs := [.tmp 4]) [_] Try.func117 rfl ⟨rfl, trivial⟩ ?_
    exact ⟨congrArg (Value.int .i64) (idx_none (by rwa [List.take_length] at hno)).symm, S1.le⟩

/-- slices.ContainsFunc[[]int,int]. -/
theorem c_ContainsFuncInt (va : Value) (l : List Int) (p : Int → Bool) (kf : Nat) (caps : List Value) (hmx : l.length ≤ 9223372036854775807) (w : World) (hA : Rd EI w va l) (he : ∀ args w, (callFunc kf args).run Try.prog w = .ok (.enter kf args) w)
    (hf : ∀ x ∈ l, ∀ w1, Le w w1 → Cl Try.prog kf ([Value.int .i64 x] ++ caps).toArray w1 fun v w2 => v = .bool (p x) ∧ Le w1 w2) :
    Cl Try.prog 111 #[va, .func (.func kf) #[] caps.toArray] w fun v w' => v = .bool (l.any p) ∧ Le w w' := by
  refine fn_of_run (args := [_, _]) 9 Try.func111 rfl rfl rfl fun cs => ?_
  have S := Own.start (X := nob) w
  refine r_seq ?_
  refine r_region ?_
  refine l_x rfl (x_as rfl) ?_
  refine l_nil ?_
  refine r_seq ?_
  refine r_region ?_
  refine l_x rfl (x_mv rfl) ?_
  refine l_x rfl (x_mv rfl) ?_
  refine l_call [] [] [_, _] rfl rfl Try.call117 rfl (c_IndexFuncInt _ _ p kf caps hmx _ (hA.le S.le) he (fun x hx w1 h1 => hf x hx w1 (S.le.trans h1))) ?_
  rintro _ w1 ⟨rfl, hl3⟩
  have S2 := S.step hl3
  refine l_x rfl (x_geq rfl rfl) ?_
  refine l_x rfl (x_as rfl) ?_
  refine l_nil ?_
  refine r_ret (rs := [.tmp 4]) [_] Try.func111 rfl ⟨rfl, trivial⟩ ?_
  exact ⟨congrArg Value.bool (Bool.eq_iff_iff.2 (by rw [decide_eq_true_iff]; exact idx_ge p l)), S2.le⟩

/-- couchant/flow.Check. -/
theorem c_Check (N : Int) (va : Value) (arcs : List Arc) (w : World) (hA : Rd EA w va arcs) :
    Cl Try.prog 36 #[.agg #[.int .i64 N, va]] w fun v w' => v = .int .i64 (chk N arcs) ∧ Le w w' := by
  refine fn_of_run (args := [_]) 21 Try.func36 rfl rfl rfl fun cs => ?_
  have S := Own.start (X := nob) w
  refine r_seq ?_
  refine r_region ?_
  refine l_box S rfl rfl ?_
  intro b4 w1 S2 hl3
  refine l_x rfl (x_as rfl) ?_
  refine l_nil ?_
  refine r_seq ?_
  refine r_seq ?_
  refine r_region ?_
  refine l_x rfl (x_fieldAddr rfl Try.runUnderlying24 rfl Try.sizeOf3 (by decide)) ?_
  refine l_x rfl (x_load rfl (ld_blk (S2.blk 0 rfl) Try.isAgg3 rfl)) ?_
  refine l_x rfl (x_gtr rfl rfl) ?_
  refine l_x rfl (x_mv rfl) ?_
  refine l_splitd (d := 6) rfl (fun hg6 => ?_) (fun hg6 => ?_)
  · skip
    refine l_pass rfl ?_
    refine l_pass rfl ?_
    refine l_pass rfl ?_
    refine l_pass rfl ?_
    refine l_x rfl (x_pick_t rfl rfl) ?_
    refine l_nil ?_
    refine r_true rfl ?_
    refine r_seq ?_
    refine r_region ?_
    refine l_x rfl (x_as rfl) ?_
    refine l_nil ?_
    refine r_ret (rs := [.tmp 2]) [_] Try.func36 rfl ⟨rfl, trivial⟩ ?_
    exact ⟨congrArg (Value.int .i64) (by rw [chk, if_pos (by omega)]), S2.le⟩
  · skip
    refine l_x rfl (x_fieldAddr rfl Try.runUnderlying24 rfl Try.sizeOf22 (by decide)) ?_
    refine l_x rfl (x_load rfl (ld_blk (S2.blk 0 rfl) Try.isAgg22 rfl)) ?_
    refine l_x rfl (x_len (hA.le S2.le) rfl Try.runUnderlying22) ?_
    refine l_x rfl (x_gtr rfl rfl) ?_
    refine l_x rfl (x_pick_f rfl rfl) ?_
    refine l_nil ?_
    refine r_ifd rfl (fun hc11 => ?_) (fun hc11 => ?_)
    · skip
      refine r_seq ?_
      refine r_region ?_
      refine l_x rfl (x_as rfl) ?_
      refine l_nil ?_
      refine r_ret (rs := [.tmp 2]) [_] Try.func36 rfl ⟨rfl, trivial⟩ ?_
      exact ⟨congrArg (Value.int .i64) (by rw [chk, if_pos (by omega)]), S2.le⟩
    · skip
      refine r_skip ?_
      refine r_seq ?_
      refine r_seq ?_
      refine r_region ?_
      refine l_x rfl (x_fieldAddr rfl Try.runUnderlying24 rfl Try.sizeOf3 (by decide)) ?_
      refine l_x rfl (x_load rfl (ld_blk (S2.blk 0 rfl) Try.isAgg3 rfl)) ?_
      refine l_x rfl (x_lss rfl rfl) ?_
      refine l_x rfl (x_mv rfl) ?_
      refine l_splitd (d := 15) rfl (fun hg15 => ?_) (fun hg15 => ?_)
      · skip
        refine l_pass rfl ?_
        refine l_pass rfl ?_
        refine l_pass rfl ?_
        refine l_pass rfl ?_
        refine l_x rfl (x_pick_t rfl rfl) ?_
        refine l_nil ?_
        refine r_true rfl ?_
        refine r_seq ?_
        refine r_region ?_
        refine l_x rfl (x_as rfl) ?_
        refine l_nil ?_
        refine r_ret (rs := [.tmp 2]) [_] Try.func36 rfl ⟨rfl, trivial⟩ ?_
        exact ⟨congrArg (Value.int .i64) (by rw [chk, if_neg (by omega), if_pos (.inl (by omega))]), S2.le⟩
      · skip
        refine l_x rfl (x_fieldAddr rfl Try.runUnderlying24 rfl Try.sizeOf22 (by decide)) ?_
        refine l_x rfl (x_load rfl (ld_blk (S2.blk 0 rfl) Try.isAgg22 rfl)) ?_
        refine l_x rfl (x_func rfl rfl) ?_
        refine l_call [] [] [_, _] rfl rfl Try.call94 rfl (c_ContainsFuncArc _ _ (fun a => !okArc N a) 95 _ (by omega) _ (hA.le S2.le) Try.call95 (fun x hx w1 h1 => c_Check1 N x va _ ⟨by omega, by omega⟩ w1 ((S2.blk 0 rfl).keep h1 id))) ?_
        rintro _ w5 ⟨rfl, hl7⟩
        have S6 := S2.step hl7
        refine l_x rfl (x_pick_f rfl rfl) ?_
        refine l_nil ?_
        refine r_if rfl (fun hc20 => ?_) (fun hc20 => ?_)
        · skip
          refine r_seq ?_
          refine r_region ?_
          refine l_x rfl (x_as rfl) ?_
          refine l_nil ?_
          refine r_ret (rs := [.tmp 2]) [_] Try.func36 rfl ⟨rfl, trivial⟩ ?_
          exact ⟨congrArg (Value.int .i64) (by rw [chk, if_neg (by omega), if_pos (.inr hc20)]), S6.le⟩
        · skip
          refine r_skip ?_
          refine r_seq ?_
          refine r_region ?_
          refine l_x rfl (x_as rfl) ?_
          refine l_nil ?_
          refine r_ret (rs := [.tmp 2]) [_] Try.func36 rfl ⟨rfl, trivial⟩ ?_
          exact ⟨congrArg (Value.int .i64) (by rw [chk, if_neg (by omega), if_neg (by rintro (h | h) <;> first | omega | (rw [h] at hc20; cases hc20))]), S6.le⟩

/-- couchant/flow.asked. -/
theorem c_asked (N : Int) (va : Value) (arcs : List Arc) (p : Bool) (kf : Nat) (caps : List Value) (w : World) (hA : Rd EA w va arcs) (he : ∀ args w, (callFunc kf args).run Try.prog w = .ok (.enter kf args) w)
    (hf : chk N arcs = 0 → ∀ w1, Le w w1 → Cl Try.prog kf caps.toArray w1 fun v w2 => v = .bool p ∧ Le w1 w2) :
    Cl Try.prog 62 #[.agg #[.int .i64 N, va], .func (.func kf) #[] caps.toArray] w fun v w' => v = .int .i64 (askd N arcs p) ∧ Le w w' := by
  refine fn_of_run (args := [_, _]) 14 Try.func62 rfl rfl rfl fun cs => ?_
  have S := Own.start (X := nob) w
  refine r_seq ?_
  refine r_region ?_
  refine l_box S rfl rfl ?_
  intro b4 w1 S2 hl3
  refine l_x rfl (x_as rfl) ?_
  refine l_nil ?_
  refine r_seq ?_
  refine r_seq ?_
  refine r_region ?_
  refine l_x rfl (x_load rfl (ld_blks (S2.blk 0 rfl) Try.isAgg24 Try.sizeOf24 rfl rfl)) ?_
  refine l_call [] [] [_] rfl rfl Try.call36 rfl (c_Check N va arcs _ (hA.le S2.le)) ?_
  rintro _ w5 ⟨rfl, hl7⟩
  have S6 := S2.step hl7
  refine l_x rfl (x_as rfl) ?_
  refine l_nil ?_
  refine r_seq ?_
  refine r_region ?_
  refine l_x rfl (x_mv rfl) ?_
  refine l_x rfl (x_neq rfl rfl) ?_
  refine l_nil ?_
  refine r_ifd rfl (fun hc9 => ?_) (fun hc9 => ?_)
  · skip
    refine r_seq ?_
    refine r_region ?_
    refine l_x rfl (x_mv rfl) ?_
    refine l_x rfl (x_as rfl) ?_
    refine l_nil ?_
    refine r_ret (rs := [.tmp 4]) [_] Try.func62 rfl ⟨rfl, trivial⟩ ?_
    exact ⟨congrArg (Value.int .i64) (by rw [askd, if_pos hc9]), S6.le⟩
  · skip
    refine r_skip ?_
    refine r_seq ?_
    refine r_seq ?_
    refine r_region ?_
    refine l_x rfl (x_mv rfl) ?_
    refine l_call [] caps ([] ++ caps) rfl rfl he rfl (hf (by simpa using hc9) _ S6.le) ?_
    rintro _ w8 ⟨rfl, hl10⟩
    have S9 := S6.step hl10
    refine l_x rfl (x_not rfl) ?_
    refine l_nil ?_
    refine r_if rfl (fun hc13 => ?_) (fun hc13 => ?_)
    · skip
      refine r_seq ?_
      refine r_region ?_
      refine l_x rfl (x_as rfl) ?_
      refine l_nil ?_
      refine r_ret (rs := [.tmp 4]) [_] Try.func62 rfl ⟨rfl, trivial⟩ ?_
      exact ⟨congrArg (Value.int .i64) (by rw [askd, if_neg hc9, if_neg (by simpa using hc13)]), S9.le⟩
    · skip
      refine r_skip ?_
      refine r_seq ?_
      refine r_region ?_
      refine l_x rfl (x_as rfl) ?_
      refine l_nil ?_
      refine r_ret (rs := [.tmp 4]) [_] Try.func62 rfl ⟨rfl, trivial⟩ ?_
      exact ⟨congrArg (Value.int .i64) (by rw [askd, if_neg hc9, if_pos (by simpa using hc13)]), S9.le⟩

/-- couchant/flow.row$1. -/
theorem c_row1 (x a b : Int) (b1 b2 : Nat) (w : World) (h1 : Blk w b1 [.int .i64 a] 3) (h2 : Blk w b2 [.int .i64 b] 3) :
    Cl Try.prog 134 #[.int .i64 x, .pointer (some ⟨b1, 0, none⟩), .pointer (some ⟨b2, 0, none⟩)] w fun v w' => v = .bool (!decide (a ≤ x ∧ x ≤ b)) ∧ Le w w' := by
  refine fn_of_run (args := [_, _, _]) 10 Try.func134 rfl rfl rfl fun cs => ?_
  have S := Own.start (X := nob) w
  refine r_seq ?_
  refine r_region ?_
  refine l_x rfl (x_as rfl) ?_
  refine l_nil ?_
  refine r_seq ?_
  refine r_region ?_
  refine l_x rfl (x_mv rfl) ?_
  refine l_x rfl (x_load rfl (ld_blk (h1.keep S.le id) Try.isAgg3 rfl)) ?_
  refine l_x rfl (x_load rfl (ld_blk (h2.keep S.le id) Try.isAgg3 rfl)) ?_
  refine l_call [] [] [_, _, _] rfl rfl Try.call64 rfl (c_in _ _ _ _) ?_
  rintro _ w1 ⟨rfl, hl3⟩
  have S2 := S.step hl3
  refine l_x rfl (x_notd rfl) ?_
  refine l_x rfl (x_as rfl) ?_
  refine l_nil ?_
  refine r_ret (rs := [.tmp 4]) [_] Try.func134 rfl ⟨rfl, trivial⟩ ?_
  exact ⟨congrArg Value.bool (by rw [decide_not]), S2.le⟩

/-- couchant/flow.row. -/
theorem c_row (vl : Value) (l : List Int) (n a b : Int) (hmx : l.length ≤ 9223372036854775807) (w : World) (hL : Rd EI w vl l) :
    Cl Try.prog 119 #[vl, .int .i64 n, .int .i64 a, .int .i64 b] w fun v w' => v = .bool (row l n a b) ∧ Le w w' := by
  refine fn_of_run (args := [_, _, _, _]) 19 Try.func119 rfl rfl rfl fun cs => ?_
  have S := Own.start (X := nob) w
  refine r_seq ?_
  refine r_region ?_
  refine l_box S rfl rfl ?_
  intro b4 w1 S2 hl3
  refine l_box S2 rfl rfl ?_
  intro b8 w5 S6 hl7
  refine l_x rfl (x_as rfl) ?_
  refine l_nil ?_
  refine r_seq ?_
  refine r_region ?_
  refine l_x rfl (x_mv rfl) ?_
  refine l_x rfl (x_len (hL.le S6.le) rfl Try.runUnderlying25) ?_
  refine l_x rfl (x_mv rfl) ?_
  refine l_x rfl (x_eql rfl rfl) ?_
  refine l_x rfl (x_mv rfl) ?_
  refine l_splitd (d := 13) rfl (fun hg13 => ?_) (fun hg13 => ?_)
  · skip
    refine l_x rfl (x_mv rfl) ?_
    refine l_x rfl (x_func rfl rfl) ?_
    refine l_call [] [] [_, _] rfl rfl Try.call111 rfl (c_ContainsFuncInt _ _ (fun x => !decide (a ≤ x ∧ x ≤ b)) 134 _ (by omega) _ (hL.le S6.le) Try.call134 (fun x hx w1 h1 => c_row1 x a b _ _ w1 ((S6.blk 0 rfl).keep h1 id) ((S6.blk 1 rfl).keep h1 id))) ?_
    rintro _ w9 ⟨rfl, hl11⟩
    have S10 := S6.step hl11
    refine l_x rfl (x_not rfl) ?_
    refine l_x rfl (x_pick_t rfl rfl) ?_
    refine l_x rfl (x_as rfl) ?_
    refine l_nil ?_
    refine r_ret (rs := [.tmp 8]) [_] Try.func119 rfl ⟨rfl, trivial⟩ ?_
    exact ⟨congrArg Value.bool (by simp only [row, decide_eq_true hg13, Bool.true_and]), S10.le⟩
  · skip
    refine l_pass rfl ?_
    refine l_pass rfl ?_
    refine l_pass rfl ?_
    refine l_pass rfl ?_
    refine l_x rfl (x_pick_f rfl rfl) ?_
    refine l_x rfl (x_as rfl) ?_
    refine l_nil ?_
    refine r_ret (rs := [.tmp 8]) [_] Try.func119 rfl ⟨rfl, trivial⟩ ?_
    exact ⟨congrArg Value.bool (by simp only [row, decide_eq_false hg13, Bool.false_and]), S6.le⟩

/-- couchant/flow.amounts. -/
theorem c_amounts (N : Int) (va : Value) (arcs : List Arc) (vl : Value) (l : List Int) (hmx : l.length ≤ 9223372036854775807) (w : World) (hA : Rd EA w va arcs) (hL : Rd EI w vl l) :
    Cl Try.prog 67 #[.agg #[.int .i64 N, va], vl] w fun v w' => v = .bool (row l arcs.length (0) 1000000) ∧ Le w w' := by
  refine fn_of_run (args := [_, _]) 10 Try.func67 rfl rfl rfl fun cs => ?_
  have S := Own.start (X := nob) w
  refine r_seq ?_
  refine r_region ?_
  refine l_box S rfl rfl ?_
  intro b4 w1 S2 hl3
  refine l_x rfl (x_as rfl) ?_
  refine l_nil ?_
  refine r_seq ?_
  refine r_region ?_
  refine l_x rfl (x_mv rfl) ?_
  refine l_x rfl (x_fieldAddr rfl Try.runUnderlying24 rfl Try.sizeOf22 (by decide)) ?_
  refine l_x rfl (x_load rfl (ld_blk (S2.blk 0 rfl) Try.isAgg22 rfl)) ?_
  refine l_x rfl (x_len (hA.le S2.le) rfl Try.runUnderlying22) ?_
  refine l_call [] [] [_, _, _, _] rfl rfl Try.call119 rfl (c_row _ _ _ _ _ (by omega) _ (hL.le S2.le)) ?_
  rintro _ w5 ⟨rfl, hl7⟩
  have S6 := S2.step hl7
  refine l_x rfl (x_as rfl) ?_
  refine l_nil ?_
  refine r_ret (rs := [.tmp 4]) [_] Try.func67 rfl ⟨rfl, trivial⟩ ?_
  exact ⟨rfl, S6.le⟩

/-- couchant/flow.weights. -/
theorem c_weights (N : Int) (va : Value) (arcs : List Arc) (vl : Value) (l : List Int) (hmx : l.length ≤ 9223372036854775807) (w : World) (hA : Rd EA w va arcs) (hL : Rd EI w vl l) :
    Cl Try.prog 70 #[.agg #[.int .i64 N, va], vl] w fun v w' => v = .bool (row l arcs.length (-1000) 1000) ∧ Le w w' := by
  refine fn_of_run (args := [_, _]) 10 Try.func70 rfl rfl rfl fun cs => ?_
  have S := Own.start (X := nob) w
  refine r_seq ?_
  refine r_region ?_
  refine l_box S rfl rfl ?_
  intro b4 w1 S2 hl3
  refine l_x rfl (x_as rfl) ?_
  refine l_nil ?_
  refine r_seq ?_
  refine r_region ?_
  refine l_x rfl (x_mv rfl) ?_
  refine l_x rfl (x_fieldAddr rfl Try.runUnderlying24 rfl Try.sizeOf22 (by decide)) ?_
  refine l_x rfl (x_load rfl (ld_blk (S2.blk 0 rfl) Try.isAgg22 rfl)) ?_
  refine l_x rfl (x_len (hA.le S2.le) rfl Try.runUnderlying22) ?_
  refine l_call [] [] [_, _, _, _] rfl rfl Try.call119 rfl (c_row _ _ _ _ _ (by omega) _ (hL.le S2.le)) ?_
  rintro _ w5 ⟨rfl, hl7⟩
  have S6 := S2.step hl7
  refine l_x rfl (x_as rfl) ?_
  refine l_nil ?_
  refine r_ret (rs := [.tmp 4]) [_] Try.func70 rfl ⟨rfl, trivial⟩ ?_
  exact ⟨rfl, S6.le⟩

/-- couchant/flow.potentials. -/
theorem c_potentials (N : Int) (va : Value) (vl : Value) (l : List Int) (hmx : l.length ≤ 9223372036854775807) (w : World) (hL : Rd EI w vl l) :
    Cl Try.prog 89 #[.agg #[.int .i64 N, va], vl] w fun v w' => v = .bool (row l N (-10000000) 10000000) ∧ Le w w' := by
  refine fn_of_run (args := [_, _]) 9 Try.func89 rfl rfl rfl fun cs => ?_
  have S := Own.start (X := nob) w
  refine r_seq ?_
  refine r_region ?_
  refine l_box S rfl rfl ?_
  intro b4 w1 S2 hl3
  refine l_x rfl (x_as rfl) ?_
  refine l_nil ?_
  refine r_seq ?_
  refine r_region ?_
  refine l_x rfl (x_mv rfl) ?_
  refine l_x rfl (x_fieldAddr rfl Try.runUnderlying24 rfl Try.sizeOf3 (by decide)) ?_
  refine l_x rfl (x_load rfl (ld_blk (S2.blk 0 rfl) Try.isAgg3 rfl)) ?_
  refine l_call [] [] [_, _, _, _] rfl rfl Try.call119 rfl (c_row _ _ _ _ _ (by omega) _ (hL.le S2.le)) ?_
  rintro _ w5 ⟨rfl, hl7⟩
  have S6 := S2.step hl7
  refine l_x rfl (x_as rfl) ?_
  refine l_nil ?_
  refine r_ret (rs := [.tmp 4]) [_] Try.func89 rfl ⟨rfl, trivial⟩ ?_
  exact ⟨rfl, S6.le⟩

end Go.Proofs
