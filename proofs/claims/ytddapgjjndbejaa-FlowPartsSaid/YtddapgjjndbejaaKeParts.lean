/- Texts joined for a claim: Facts, F1, F2, F3, F4. -/
import Derived.Test.YtddapgjjndbejaaProg
import Derived.Test.YtddapgjjndbejaaKbParts
/-
  Facts of the program and of its types.
-/
namespace Go.Proofs
open Go Go.Vk Go.Vk.Flow

theorem Try.mixed : Try.prog.follows .mixedOrders = true := by kernel_rfl
abbrev EI := intE 3
abbrev EB := boolE 4
abbrev EA := arcE 39
abbrev ES := stpE 126
abbrev EH := hdE 135
theorem zcT : Try.zeroCells89 = (tab 1000 fun _ => 0).toArray := by kernel_rfl
theorem info3 : Try.prog.info? 3 = some Try.t3 := by kernel_rfl
theorem info4 : Try.prog.info? 4 = some Try.t4 := by kernel_rfl
theorem info39 : Try.prog.info? 39 = some Try.t39 := by kernel_rfl
theorem info126 : Try.prog.info? 126 = some Try.t126 := by kernel_rfl
theorem info135 : Try.prog.info? 135 = some Try.t135 := by kernel_rfl
theorem size3 : (Try.prog.info? 3).map (·.size) = some 1 := by rw [info3]; rfl
theorem size4 : (Try.prog.info? 4).map (·.size) = some 1 := by rw [info4]; rfl
theorem size39 : (Try.prog.info? 39).map (·.size) = some 6 := by rw [info39]; rfl
theorem size126 : (Try.prog.info? 126).map (·.size) = some 5 := by rw [info126]; rfl
theorem size135 : (Try.prog.info? 135).map (·.size) = some 1 := by rw [info135]; rfl
theorem cellsI : Try.prog.cellsOf 3 = 1 := by kernel_rfl
theorem decF {p : Prop} [Decidable p] (h : ¬ p) : false = decide p := (decide_eq_false h).symm
theorem decT {p : Prop} [Decidable p] (h : p) : true = decide p := (decide_eq_true h).symm
theorem decE {p q : Prop} [Decidable p] [Decidable q] (h : p ↔ q) : decide p = decide q := decide_eq_decide.2 h

end Go.Proofs

/-
  Contracts of functions of the program: each by symbolic execution of its text.
-/
namespace Go.Proofs
open Go Go.Vk Go.Vk.Flow

/-- couchant/flow.in. -/
theorem c_in (a l m : Int) (w : World) :
    Cl Try.prog 64 #[.int .i64 a, .int .i64 l, .int .i64 m] w fun v w' => v = .bool (decide (l ≤ a ∧ a ≤ m)) ∧ Le w w' := by
  refine fn_of_run (args := [_, _, _]) 15 Try.func64 rfl rfl rfl fun cs => ?_
  have S := Own.start (X := nob) w
  refine r_seq ?_
  refine r_region ?_
  refine l_x rfl (x_as rfl) ?_
  refine l_nil ?_
  refine r_seq ?_
  refine r_region ?_
  refine l_x rfl (x_mv rfl) ?_
  refine l_x rfl (x_mv rfl) ?_
  refine l_x rfl (x_geq rfl rfl) ?_
  refine l_x rfl (x_mv rfl) ?_
  refine l_splitd (d := 10) rfl (fun hg10 => ?_) (fun hg10 => ?_)
  · skip
    refine l_x rfl (x_mv rfl) ?_
    refine l_x rfl (x_mv rfl) ?_
    refine l_x rfl (x_leq rfl rfl) ?_
    refine l_x rfl (x_pick_t rfl rfl) ?_
    refine l_x rfl (x_as rfl) ?_
    refine l_nil ?_
    refine r_ret (rs := [.tmp 6]) [_] Try.func64 rfl ⟨rfl, trivial⟩ ?_
    exact ⟨congrArg Value.bool (by first | (apply decE; omega) | (apply decF; omega)), S.le⟩
  · skip
    refine l_pass rfl ?_
    refine l_pass rfl ?_
    refine l_pass rfl ?_
    refine l_x rfl (x_pick_f rfl rfl) ?_
    refine l_x rfl (x_as rfl) ?_
    refine l_nil ?_
    refine r_ret (rs := [.tmp 6]) [_] Try.func64 rfl ⟨rfl, trivial⟩ ?_
    exact ⟨congrArg Value.bool (by first | (apply decE; omega) | (apply decF; omega)), S.le⟩

/-- couchant/flow.Check$1. -/
theorem c_Check1 (N : Int) (a : Arc) (va : Value) (bg : Nat) (hN : 1 ≤ N ∧ N ≤ 1000) (w : World) (hG : Blk w bg [.int .i64 N, va] 24) :
    Cl Try.prog 95 #[.agg a.enc.toArray, .pointer (some ⟨bg, 0, none⟩)] w fun v w' => v = .bool (!okArc N a) ∧ Le w w' := by
  refine fn_of_run (args := [_, _]) 45 Try.func95 rfl rfl rfl fun cs => ?_
  have S := Own.start (X := nob) w
  refine r_seq ?_
  refine r_region ?_
  refine l_box S rfl rfl ?_
  intro b4 w1 S2 hl3
  refine l_x rfl (x_as rfl) ?_
  refine l_nil ?_
  refine r_seq ?_
  refine r_region ?_
  refine l_x rfl (x_fieldAddr rfl Try.runUnderlying39 rfl Try.sizeOf3 (by decide)) ?_
  refine l_x rfl (x_load rfl (ld_blk (S2.blk 0 rfl) Try.isAgg3 rfl)) ?_
  refine l_x rfl (x_fieldAddr rfl Try.runUnderlying24 rfl Try.sizeOf3 (by decide)) ?_
  refine l_x rfl (x_load rfl (ld_blk (hG.keep S2.le id) Try.isAgg3 rfl)) ?_
  refine l_x rfl (x_sub rfl rfl (by omega)) ?_
  refine l_call [] [] [_, _, _] rfl rfl Try.call64 rfl (c_in _ _ _ _) ?_
  rintro _ w5 ⟨rfl, hl7⟩
  have S6 := S2.step hl7
  refine l_x rfl (x_mv rfl) ?_
  refine l_splitd (d := 11) rfl (fun hg11 => ?_) (fun hg11 => ?_)
  · skip
    refine l_x rfl (x_fieldAddr rfl Try.runUnderlying39 rfl Try.sizeOf3 (by decide)) ?_
    refine l_x rfl (x_load rfl (ld_blk (S6.blk 0 rfl) Try.isAgg3 rfl)) ?_
    refine l_x rfl (x_fieldAddr rfl Try.runUnderlying24 rfl Try.sizeOf3 (by decide)) ?_
    refine l_x rfl (x_load rfl (ld_blk (hG.keep S6.le id) Try.isAgg3 rfl)) ?_
    refine l_x rfl (x_sub rfl rfl (by omega)) ?_
    refine l_call [] [] [_, _, _] rfl rfl Try.call64 rfl (c_in _ _ _ _) ?_
    rintro _ w8 ⟨rfl, hl10⟩
    have S9 := S6.step hl10
    refine l_x rfl (x_pick_t rfl rfl) ?_
    refine l_x rfl (x_as rfl) ?_
    refine l_nil ?_
    refine r_seq ?_
    refine r_region ?_
    refine l_x rfl (x_mv rfl) ?_
    refine l_x rfl (x_notd rfl) ?_
    refine l_x rfl (x_mv rfl) ?_
    refine l_splitd (d := 21) rfl (fun hg21 => ?_) (fun hg21 => ?_)
    · skip
      refine l_pass rfl ?_
      refine l_pass rfl ?_
      refine l_pass rfl ?_
      refine l_pass rfl ?_
      refine l_x rfl (x_pick_t rfl rfl) ?_
      refine l_x rfl (x_mv rfl) ?_
      refine l_pass rfl ?_
      refine l_pass rfl ?_
      refine l_pass rfl ?_
      refine l_pass rfl ?_
      refine l_x rfl (x_pick_t rfl rfl) ?_
      refine l_x rfl (x_mv rfl) ?_
      refine l_pass rfl ?_
      refine l_pass rfl ?_
      refine l_pass rfl ?_
      refine l_pass rfl ?_
      refine l_x rfl (x_pick_t rfl rfl) ?_
      refine l_x rfl (x_mv rfl) ?_
      refine l_pass rfl ?_
      refine l_pass rfl ?_
      refine l_pass rfl ?_
      refine l_pass rfl ?_
      refine l_x rfl (x_pick_t rfl rfl) ?_
      refine l_x rfl (x_as rfl) ?_
      refine l_nil ?_
      refine r_ret (rs := [.tmp 3]) [_] Try.func95 rfl ⟨rfl, trivial⟩ ?_
      exact ⟨congrArg Value.bool (by simp only [okArc, ← decide_not]; first | (apply decT; omega) | (apply decE; omega)), S9.le⟩
    · skip
      refine l_x rfl (x_fieldAddr rfl Try.runUnderlying39 rfl Try.sizeOf3 (by decide)) ?_
      refine l_x rfl (x_load rfl (ld_blk (S9.blk 0 rfl) Try.isAgg3 rfl)) ?_
      refine l_call [] [] [_, _, _] rfl rfl Try.call64 rfl (c_in _ _ _ _) ?_
      rintro _ w11 ⟨rfl, hl13⟩
      have S12 := S9.step hl13
      refine l_x rfl (x_notd rfl) ?_
      refine l_x rfl (x_pick_f rfl rfl) ?_
      refine l_x rfl (x_mv rfl) ?_
      refine l_splitd (d := 27) rfl (fun hg27 => ?_) (fun hg27 => ?_)
      · skip
        refine l_pass rfl ?_
        refine l_pass rfl ?_
        refine l_pass rfl ?_
        refine l_pass rfl ?_
        refine l_x rfl (x_pick_t rfl rfl) ?_
        refine l_x rfl (x_mv rfl) ?_
        refine l_pass rfl ?_
        refine l_pass rfl ?_
        refine l_pass rfl ?_
        refine l_pass rfl ?_
        refine l_x rfl (x_pick_t rfl rfl) ?_
        refine l_x rfl (x_mv rfl) ?_
        refine l_pass rfl ?_
        refine l_pass rfl ?_
        refine l_pass rfl ?_
        refine l_pass rfl ?_
        refine l_x rfl (x_pick_t rfl rfl) ?_
        refine l_x rfl (x_as rfl) ?_
        refine l_nil ?_
        refine r_ret (rs := [.tmp 3]) [_] Try.func95 rfl ⟨rfl, trivial⟩ ?_
        exact ⟨congrArg Value.bool (by simp only [okArc, ← decide_not]; first | (apply decT; omega) | (apply decE; omega)), S12.le⟩
      · skip
        refine l_x rfl (x_fieldAddr rfl Try.runUnderlying39 rfl Try.sizeOf3 (by decide)) ?_
        refine l_x rfl (x_load rfl (ld_blk (S12.blk 0 rfl) Try.isAgg3 rfl)) ?_
        refine l_call [] [] [_, _, _] rfl rfl Try.call64 rfl (c_in _ _ _ _) ?_
        rintro _ w14 ⟨rfl, hl16⟩
        have S15 := S12.step hl16
        refine l_x rfl (x_notd rfl) ?_
        refine l_x rfl (x_pick_f rfl rfl) ?_
        refine l_x rfl (x_mv rfl) ?_
        refine l_splitd (d := 33) rfl (fun hg33 => ?_) (fun hg33 => ?_)
        · skip
          refine l_pass rfl ?_
          refine l_pass rfl ?_
          refine l_pass rfl ?_
          refine l_pass rfl ?_
          refine l_x rfl (x_pick_t rfl rfl) ?_
          refine l_x rfl (x_mv rfl) ?_
          refine l_pass rfl ?_
          refine l_pass rfl ?_
          refine l_pass rfl ?_
          refine l_pass rfl ?_
          refine l_x rfl (x_pick_t rfl rfl) ?_
          refine l_x rfl (x_as rfl) ?_
          refine l_nil ?_
          refine r_ret (rs := [.tmp 3]) [_] Try.func95 rfl ⟨rfl, trivial⟩ ?_
          exact ⟨congrArg Value.bool (by simp only [okArc, ← decide_not]; first | (apply decT; omega) | (apply decE; omega)), S15.le⟩
        · skip
          refine l_x rfl (x_fieldAddr rfl Try.runUnderlying39 rfl Try.sizeOf3 (by decide)) ?_
          refine l_x rfl (x_load rfl (ld_blk (S15.blk 0 rfl) Try.isAgg3 rfl)) ?_
          refine l_call [] [] [_, _, _] rfl rfl Try.call64 rfl (c_in _ _ _ _) ?_
          rintro _ w17 ⟨rfl, hl19⟩
          have S18 := S15.step hl19
          refine l_x rfl (x_notd rfl) ?_
          refine l_x rfl (x_pick_f rfl rfl) ?_
          refine l_x rfl (x_mv rfl) ?_
          refine l_splitd (d := 39) rfl (fun hg39 => ?_) (fun hg39 => ?_)
          · skip
            refine l_pass rfl ?_
            refine l_pass rfl ?_
            refine l_pass rfl ?_
            refine l_pass rfl ?_
            refine l_x rfl (x_pick_t rfl rfl) ?_
            refine l_x rfl (x_as rfl) ?_
            refine l_nil ?_
            refine r_ret (rs := [.tmp 3]) [_] Try.func95 rfl ⟨rfl, trivial⟩ ?_
            exact ⟨congrArg Value.bool (by simp only [okArc, ← decide_not]; first | (apply decT; omega) | (apply decE; omega)), S18.le⟩
          · skip
            refine l_x rfl (x_fieldAddr rfl Try.runUnderlying39 rfl Try.sizeOf3 (by decide)) ?_
            refine l_x rfl (x_load rfl (ld_blk (S18.blk 0 rfl) Try.isAgg3 rfl)) ?_
            refine l_call [] [] [_, _, _] rfl rfl Try.call64 rfl (c_in _ _ _ _) ?_
            rintro _ w20 ⟨rfl, hl22⟩
            have S21 := S18.step hl22
            refine l_x rfl (x_notd rfl) ?_
            refine l_x rfl (x_pick_f rfl rfl) ?_
            refine l_x rfl (x_as rfl) ?_
            refine l_nil ?_
            refine r_ret (rs := [.tmp 3]) [_] Try.func95 rfl ⟨rfl, trivial⟩ ?_
            exact ⟨congrArg Value.bool (by simp only [okArc, ← decide_not]; first | (apply decT; omega) | (apply decE; omega)), S21.le⟩
  · skip
    refine l_pass rfl ?_
    refine l_pass rfl ?_
    refine l_pass rfl ?_
    refine l_pass rfl ?_
    refine l_pass rfl ?_
    refine l_pass rfl ?_
    refine l_x rfl (x_pick_f rfl rfl) ?_
    refine l_x rfl (x_as rfl) ?_
    refine l_nil ?_
    refine r_seq ?_
    refine r_region ?_
    refine l_x rfl (x_mv rfl) ?_
    refine l_x rfl (x_not rfl) ?_
    refine l_x rfl (x_mv rfl) ?_
    refine l_pass rfl ?_
    refine l_pass rfl ?_
    refine l_pass rfl ?_
    refine l_pass rfl ?_
    refine l_x rfl (x_pick_t rfl rfl) ?_
    refine l_x rfl (x_mv rfl) ?_
    refine l_pass rfl ?_
    refine l_pass rfl ?_
    refine l_pass rfl ?_
    refine l_pass rfl ?_
    refine l_x rfl (x_pick_t rfl rfl) ?_
    refine l_x rfl (x_mv rfl) ?_
    refine l_pass rfl ?_
    refine l_pass rfl ?_
    refine l_pass rfl ?_
    refine l_pass rfl ?_
    refine l_x rfl (x_pick_t rfl rfl) ?_
    refine l_x rfl (x_mv rfl) ?_
    refine l_pass rfl ?_
    refine l_pass rfl ?_
    refine l_pass rfl ?_
    refine l_pass rfl ?_
    refine l_x rfl (x_pick_t rfl rfl) ?_
    refine l_x rfl (x_as rfl) ?_
    refine l_nil ?_
    refine r_ret (rs := [.tmp 3]) [_] Try.func95 rfl ⟨rfl, trivial⟩ ?_
    exact ⟨congrArg Value.bool (by simp only [okArc, ← decide_not]; first | (apply decT; omega) | (apply decE; omega)), S6.le⟩

/-- slices.IndexFunc[[]couchant/api.Arc,couchant/api.Arc]. -/
theorem c_IndexFuncArc (va : Value) (l : List Arc) (p : Arc → Bool) (kf : Nat) (caps : List Value) (hmx : l.length ≤ 9223372036854775807) (w : World) (hA : Rd EA w va l) (he : ∀ args w, (callFunc kf args).run Try.prog w = .ok (.enter kf args) w)
    (hf : ∀ x ∈ l, ∀ w1, Le w w1 → Cl Try.prog kf ([Value.agg x.enc.toArray] ++ caps).toArray w1 fun v w2 => v = .bool (p x) ∧ Le w1 w2) :
    Cl Try.prog 129 #[va, .func (.func kf) #[] caps.toArray] w fun v w' => v = .int .i64 (idx p l) ∧ Le w w' := by
  refine fn_of_run (args := [_, _]) 19 Try.func129 rfl rfl rfl fun cs => ?_
  have S := Own.start (X := nob) w
  refine r_seq ?_
  refine r_region ?_
  refine l_x rfl (x_as rfl) ?_
  refine l_nil ?_
  refine r_seq ?_
  refine r_seq ?_
  refine r_region ?_
  refine l_x rfl (x_mv rfl) ?_
  refine l_x rfl (x_len (hA.le S.le) rfl Try.runUnderlying22) ?_
  refine l_x rfl (x_mv rfl) ?_
  refine l_nil ?_
  refine r_block ?_
  refine r_loop (G := Nat) (fun i => l.length - i) (fun i => [(0, va), (1, .func (.func kf) #[] caps.toArray), (8, .int .i64 i), (7, .int .i64 l.length)]) (fun i w' => (i ≤ l.length) ∧ (∀ x ∈ l.take i, p x = false) ∧ Own nob w w' []) 0 ⟨rfl, rfl, rfl, rfl, trivial⟩ ⟨Nat.zero_le _, by simp, S⟩ ?_
  rintro i ρ w1 ⟨hi, hno, S1⟩ IH
  refine r_seq ?_
  refine r_region ?_
  refine l_x rfl (x_lss rfl rfl) ?_
  refine l_nil ?_
  refine r_seq ?_
  refine r_ifd rfl (fun hc9 => ?_) (fun hc9 => ?_)
  · skip
    have ha : l[i]? = some l[i] := List.getElem?_eq_getElem (by omega)
    refine r_skip ?_
    refine r_seq ?_
    refine r_block ?_
    refine r_seq ?_
    refine r_region ?_
    refine l_x rfl (x_mv rfl) ?_
    refine l_x rfl (x_as rfl) ?_
    refine l_nil ?_
    refine r_seq ?_
    refine r_region ?_
    refine l_x rfl (x_mv rfl) ?_
    refine l_x rfl (x_mv rfl) ?_
    refine l_x rfl (x_mv rfl) ?_
    refine l_index EA rfl (hA.le S1.le) rfl rfl Try.runUnderlying22 Try.sizeOf39 (by omega) (by first | assumption | exact List.getElem?_eq_getElem (by omega)) ?_
    intro b1 o2 hat3 row4
    refine l_x rfl (x_load rfl (ld_row Try.isAgg39 Try.sizeOf39 rfl row4)) ?_
    refine l_call [] caps ([_] ++ caps) rfl rfl he rfl (hf _ (List.mem_of_getElem? ha) _ S1.le) ?_
    rintro _ w5 ⟨rfl, hl7⟩
    have S6 := S1.step hl7
    refine l_nil ?_
    refine r_if rfl (fun hc16 => ?_) (fun hc16 => ?_)
    · skip
      refine r_seq ?_
      refine r_region ?_
      refine l_x rfl (x_mv rfl) ?_
      refine l_x rfl (x_as rfl) ?_
      refine l_nil ?_
      refine r_ret (rs := [.tmp 4]) [_] Try.func129 rfl ⟨rfl, trivial⟩ ?_
      exact ⟨congrArg (Value.int .i64) (idx_at ha hc16 hno).symm, S6.le⟩
    · skip
      have hno' : ∀ x ∈ l.take (i + 1), p x = false := by
        intro x hx
        rw [List.take_add_one, ha] at hx
        rcases List.mem_append.1 hx with h | h
        · exact hno x h
        · simp at h; subst h; exact hc16
      refine r_skip ?_
      refine r_inBlock ?_
      refine r_region ?_
      refine l_x rfl (x_add rfl rfl (by omega)) ?_
      refine l_x rfl (x_mv rfl) ?_
      refine l_nil ?_
      exact IH (i + 1) _ _ (by omega) ⟨rfl, rfl, rfl, rfl, trivial⟩ ⟨by omega, hno', S6⟩
  · skip
    have hi : i = l.length := by omega
    subst hi
    refine r_exit rfl ?_
    refine r_seq ?_
    refine r_region ?_
    refine l_x rfl (x_as rfl) ?_
    refine l_nil ?_
    refine r_ret (rs := [.tmp 4]) [_] Try.func129 rfl ⟨rfl, trivial⟩ ?_
    exact ⟨congrArg (Value.int .i64) (idx_none (by rwa [List.take_length] at hno)).symm, S1.le⟩

/-- slices.ContainsFunc[[]couchant/api.Arc,couchant/api.Arc]. -/
theorem c_ContainsFuncArc (va : Value) (l : List Arc) (p : Arc → Bool) (kf : Nat) (caps : List Value) (hmx : l.length ≤ 9223372036854775807) (w : World) (hA : Rd EA w va l) (he : ∀ args w, (callFunc kf args).run Try.prog w = .ok (.enter kf args) w)
    (hf : ∀ x ∈ l, ∀ w1, Le w w1 → Cl Try.prog kf ([Value.agg x.enc.toArray] ++ caps).toArray w1 fun v w2 => v = .bool (p x) ∧ Le w1 w2) :
    Cl Try.prog 94 #[va, .func (.func kf) #[] caps.toArray] w fun v w' => v = .bool (l.any p) ∧ Le w w' := by
  refine fn_of_run (args := [_, _]) 9 Try.func94 rfl rfl rfl fun cs => ?_
  have S := Own.start (X := nob) w
  refine r_seq ?_
  refine r_region ?_
  refine l_x rfl (x_as rfl) ?_
  refine l_nil ?_
  refine r_seq ?_
  refine r_region ?_
  refine l_x rfl (x_mv rfl) ?_
  refine l_x rfl (x_mv rfl) ?_
  refine l_call [] [] [_, _] rfl rfl Try.call129 rfl (c_IndexFuncArc _ _ p kf caps hmx _ (hA.le S.le) he (fun x hx w1 h1 => hf x hx w1 (S.le.trans h1))) ?_
  rintro _ w1 ⟨rfl, hl3⟩
  have S2 := S.step hl3
  refine l_x rfl (x_geq rfl rfl) ?_
  refine l_x rfl (x_as rfl) ?_
  refine l_nil ?_
  refine r_ret (rs := [.tmp 4]) [_] Try.func94 rfl ⟨rfl, trivial⟩ ?_
  exact ⟨congrArg Value.bool (Bool.eq_iff_iff.2 (by rw [decide_eq_true_iff]; exact idx_ge p l)), S2.le⟩

/-- slices.IndexFunc[[]int,int]. -/
theorem c_IndexFuncInt (va : Value) (l : List Int) (p : Int → Bool) (kf : Nat) (caps : List Value) (hmx : l.length ≤ 9223372036854775807) (w : World) (hA : Rd EI w va l) (he : ∀ args w, (callFunc kf args).run Try.prog w = .ok (.enter kf args) w)
    (hf : ∀ x ∈ l, ∀ w1, Le w w1 → Cl Try.prog kf ([Value.int .i64 x] ++ caps).toArray w1 fun v w2 => v = .bool (p x) ∧ Le w1 w2) :
    Cl Try.prog 117 #[va, .func (.func kf) #[] caps.toArray] w fun v w' => v = .int .i64 (idx p l) ∧ Le w w' := by
  refine fn_of_run (args := [_, _]) 19 Try.func117 rfl rfl rfl fun cs => ?_
  have S := Own.start (X := nob) w
  refine r_seq ?_
  refine r_region ?_
  refine l_x rfl (x_as rfl) ?_
  refine l_nil ?_
  refine r_seq ?_
  refine r_seq ?_
  refine r_region ?_
  refine l_x rfl (x_mv rfl) ?_
  refine l_x rfl (x_len (hA.le S.le) rfl Try.runUnderlying25) ?_
  refine l_x rfl (x_mv rfl) ?_
  refine l_nil ?_
  refine r_block ?_
  refine r_loop (G := Nat) (fun i => l.length - i) (fun i => [(0, va), (1, .func (.func kf) #[] caps.toArray), (8, .int .i64 i), (7, .int .i64 l.length)]) (fun i w' => (i ≤ l.length) ∧ (∀ x ∈ l.take i, p x = false) ∧ Own nob w w' []) 0 ⟨rfl, rfl, rfl, rfl, trivial⟩ ⟨Nat.zero_le _, by simp, S⟩ ?_
  rintro i ρ w1 ⟨hi, hno, S1⟩ IH
  refine r_seq ?_
  refine r_region ?_
  refine l_x rfl (x_lss rfl rfl) ?_
  refine l_nil ?_
  refine r_seq ?_
  refine r_ifd rfl (fun hc9 => ?_) (fun hc9 => ?_)
  · skip
    have ha : l[i]? = some l[i] := List.getElem?_eq_getElem (by omega)
    refine r_skip ?_
    refine r_seq ?_
    refine r_block ?_
    refine r_seq ?_
    refine r_region ?_
    refine l_x rfl (x_mv rfl) ?_
    refine l_x rfl (x_as rfl) ?_
    refine l_nil ?_
    refine r_seq ?_
    refine r_region ?_
    refine l_x rfl (x_mv rfl) ?_
    refine l_x rfl (x_mv rfl) ?_
    refine l_x rfl (x_mv rfl) ?_
    refine l_index EI rfl (hA.le S1.le) rfl rfl Try.runUnderlying25 Try.sizeOf3 (by omega) (by first | assumption | exact List.getElem?_eq_getElem (by omega)) ?_
    intro b1 o2 hat3 row4
    refine l_x rfl (x_load rfl (ld_cell Try.isAgg3 (row4 0 _ rfl))) ?_
    refine l_call [] caps ([_] ++ caps) rfl rfl he rfl (hf _ (List.mem_of_getElem? ha) _ S1.le) ?_
    rintro _ w5 ⟨rfl, hl7⟩
    have S6 := S1.step hl7
    refine l_nil ?_
    refine r_if rfl (fun hc16 => ?_) (fun hc16 => ?_)
    · skip
      refine r_seq ?_
      refine r_region ?_
      refine l_x rfl (x_mv rfl) ?_
      refine l_x rfl (x_as rfl) ?_
      refine l_nil ?_
      refine r_ret (rs := [.tmp 4]) [_] Try.func117 rfl ⟨rfl, trivial⟩ ?_
      exact ⟨congrArg (Value.int .i64) (idx_at ha hc16 hno).symm, S6.le⟩
    · skip
      have hno' : ∀ x ∈ l.take (i + 1), p x = false := by
        intro x hx
        rw [List.take_add_one, ha] at hx
        rcases List.mem_append.1 hx with h | h
        · exact hno x h
        · simp at h; subst h; exact hc16
      refine r_skip ?_
      refine r_inBlock ?_
      refine r_region ?_
      refine l_x rfl (x_add rfl rfl (by omega)) ?_
      refine l_x rfl (x_mv rfl) ?_
      refine l_nil ?_
      exact IH (i + 1) _ _ (by omega) ⟨rfl, rfl, rfl, rfl, trivial⟩ ⟨by omega, hno', S6⟩
  · skip
    have hi : i = l.length := by omega
    subst hi
    refine r_exit rfl ?_
    refine r_seq ?_
    refine r_region ?_
    refine l_x rfl (x_as rfl) ?_
    refine l_nil ?_
    refine r_ret (rs := [.tmp 4]) [_] Try.func117 rfl ⟨rfl, trivial⟩ ?_
    exact ⟨congrArg (Value.int .i64) (idx_none (by rwa [List.take_length] at hno)).symm, S1.le⟩

/-- slices.ContainsFunc[[]int,int]. -/
theorem c_ContainsFuncInt (va : Value) (l : List Int) (p : Int → Bool) (kf : Nat) (caps : List Value) (hmx : l.length ≤ 9223372036854775807) (w : World) (hA : Rd EI w va l) (he : ∀ args w, (callFunc kf args).run Try.prog w = .ok (.enter kf args) w)
    (hf : ∀ x ∈ l, ∀ w1, Le w w1 → Cl Try.prog kf ([Value.int .i64 x] ++ caps).toArray w1 fun v w2 => v = .bool (p x) ∧ Le w1 w2) :
    Cl Try.prog 111 #[va, .func (.func kf) #[] caps.toArray] w fun v w' => v = .bool (l.any p) ∧ Le w w' := by
  refine fn_of_run (args := [_, _]) 9 Try.func111 rfl rfl rfl fun cs => ?_
  have S := Own.start (X := nob) w
  refine r_seq ?_
  refine r_region ?_
  refine l_x rfl (x_as rfl) ?_
  refine l_nil ?_
  refine r_seq ?_
  refine r_region ?_
  refine l_x rfl (x_mv rfl) ?_
  refine l_x rfl (x_mv rfl) ?_
  refine l_call [] [] [_, _] rfl rfl Try.call117 rfl (c_IndexFuncInt _ _ p kf caps hmx _ (hA.le S.le) he (fun x hx w1 h1 => hf x hx w1 (S.le.trans h1))) ?_
  rintro _ w1 ⟨rfl, hl3⟩
  have S2 := S.step hl3
  refine l_x rfl (x_geq rfl rfl) ?_
  refine l_x rfl (x_as rfl) ?_
  refine l_nil ?_
  refine r_ret (rs := [.tmp 4]) [_] Try.func111 rfl ⟨rfl, trivial⟩ ?_
  exact ⟨congrArg Value.bool (Bool.eq_iff_iff.2 (by rw [decide_eq_true_iff]; exact idx_ge p l)), S2.le⟩

/-- couchant/flow.Check. -/
theorem c_Check (N : Int) (va : Value) (arcs : List Arc) (w : World) (hA : Rd EA w va arcs) :
    Cl Try.prog 36 #[.agg #[.int .i64 N, va]] w fun v w' => v = .int .i64 (chk N arcs) ∧ Le w w' := by
  refine fn_of_run (args := [_]) 21 Try.func36 rfl rfl rfl fun cs => ?_
  have S := Own.start (X := nob) w
  refine r_seq ?_
  refine r_region ?_
  refine l_box S rfl rfl ?_
  intro b4 w1 S2 hl3
  refine l_x rfl (x_as rfl) ?_
  refine l_nil ?_
  refine r_seq ?_
  refine r_seq ?_
  refine r_region ?_
  refine l_x rfl (x_fieldAddr rfl Try.runUnderlying24 rfl Try.sizeOf3 (by decide)) ?_
  refine l_x rfl (x_load rfl (ld_blk (S2.blk 0 rfl) Try.isAgg3 rfl)) ?_
  refine l_x rfl (x_gtr rfl rfl) ?_
  refine l_x rfl (x_mv rfl) ?_
  refine l_splitd (d := 6) rfl (fun hg6 => ?_) (fun hg6 => ?_)
  · skip
    refine l_pass rfl ?_
    refine l_pass rfl ?_
    refine l_pass rfl ?_
    refine l_pass rfl ?_
    refine l_x rfl (x_pick_t rfl rfl) ?_
    refine l_nil ?_
    refine r_true rfl ?_
    refine r_seq ?_
    refine r_region ?_
    refine l_x rfl (x_as rfl) ?_
    refine l_nil ?_
    refine r_ret (rs := [.tmp 2]) [_] Try.func36 rfl ⟨rfl, trivial⟩ ?_
    exact ⟨congrArg (Value.int .i64) (by rw [chk, if_pos (by omega)]), S2.le⟩
  · skip
    refine l_x rfl (x_fieldAddr rfl Try.runUnderlying24 rfl Try.sizeOf22 (by decide)) ?_
    refine l_x rfl (x_load rfl (ld_blk (S2.blk 0 rfl) Try.isAgg22 rfl)) ?_
    refine l_x rfl (x_len (hA.le S2.le) rfl Try.runUnderlying22) ?_
    refine l_x rfl (x_gtr rfl rfl) ?_
    refine l_x rfl (x_pick_f rfl rfl) ?_
    refine l_nil ?_
    refine r_ifd rfl (fun hc11 => ?_) (fun hc11 => ?_)
    · skip
      refine r_seq ?_
      refine r_region ?_
      refine l_x rfl (x_as rfl) ?_
      refine l_nil ?_
      refine r_ret (rs := [.tmp 2]) [_] Try.func36 rfl ⟨rfl, trivial⟩ ?_
      exact ⟨congrArg (Value.int .i64) (by rw [chk, if_pos (by omega)]), S2.le⟩
    · skip
      refine r_skip ?_
      refine r_seq ?_
      refine r_seq ?_
      refine r_region ?_
      refine l_x rfl (x_fieldAddr rfl Try.runUnderlying24 rfl Try.sizeOf3 (by decide)) ?_
      refine l_x rfl (x_load rfl (ld_blk (S2.blk 0 rfl) Try.isAgg3 rfl)) ?_
      refine l_x rfl (x_lss rfl rfl) ?_
      refine l_x rfl (x_mv rfl) ?_
      refine l_splitd (d := 15) rfl (fun hg15 => ?_) (fun hg15 => ?_)
      · skip
        refine l_pass rfl ?_
        refine l_pass rfl ?_
        refine l_pass rfl ?_
        refine l_pass rfl ?_
        refine l_x rfl (x_pick_t rfl rfl) ?_
        refine l_nil ?_
        refine r_true rfl ?_
        refine r_seq ?_
        refine r_region ?_
        refine l_x rfl (x_as rfl) ?_
        refine l_nil ?_
        refine r_ret (rs := [.tmp 2]) [_] Try.func36 rfl ⟨rfl, trivial⟩ ?_
        exact ⟨congrArg (Value.int .i64) (by rw [chk, if_neg (by omega), if_pos (.inl (by omega))]), S2.le⟩
      · skip
        refine l_x rfl (x_fieldAddr rfl Try.runUnderlying24 rfl Try.sizeOf22 (by decide)) ?_
        refine l_x rfl (x_load rfl (ld_blk (S2.blk 0 rfl) Try.isAgg22 rfl)) ?_
        refine l_x rfl (x_func rfl rfl) ?_
        refine l_call [] [] [_, _] rfl rfl Try.call94 rfl (c_ContainsFuncArc _ _ (fun a => !okArc N a) 95 _ (by omega) _ (hA.le S2.le) Try.call95 (fun x hx w1 h1 => c_Check1 N x va _ ⟨by omega, by omega⟩ w1 ((S2.blk 0 rfl).keep h1 id))) ?_
        rintro _ w5 ⟨rfl, hl7⟩
        have S6 := S2.step hl7
        refine l_x rfl (x_pick_f rfl rfl) ?_
        refine l_nil ?_
        refine r_if rfl (fun hc20 => ?_) (fun hc20 => ?_)
        · skip
          refine r_seq ?_
          refine r_region ?_
          refine l_x rfl (x_as rfl) ?_
          refine l_nil ?_
          refine r_ret (rs := [.tmp 2]) [_] Try.func36 rfl ⟨rfl, trivial⟩ ?_
          exact ⟨congrArg (Value.int .i64) (by rw [chk, if_neg (by omega), if_pos (.inr hc20)]), S6.le⟩
        · skip
          refine r_skip ?_
          refine r_seq ?_
          refine r_region ?_
          refine l_x rfl (x_as rfl) ?_
          refine l_nil ?_
          refine r_ret (rs := [.tmp 2]) [_] Try.func36 rfl ⟨rfl, trivial⟩ ?_
          exact ⟨congrArg (Value.int .i64) (by rw [chk, if_neg (by omega), if_neg (by rintro (h | h) <;> first | omega | (rw [h] at hc20; cases hc20))]), S6.le⟩

/-- couchant/flow.asked. -/
theorem c_asked (N : Int) (va : Value) (arcs : List Arc) (p : Bool) (kf : Nat) (caps : List Value) (w : World) (hA : Rd EA w va arcs) (he : ∀ args w, (callFunc kf args).run Try.prog w = .ok (.enter kf args) w)
    (hf : chk N arcs = 0 → ∀ w1, Le w w1 → Cl Try.prog kf caps.toArray w1 fun v w2 => v = .bool p ∧ Le w1 w2) :
    Cl Try.prog 62 #[.agg #[.int .i64 N, va], .func (.func kf) #[] caps.toArray] w fun v w' => v = .int .i64 (askd N arcs p) ∧ Le w w' := by
  refine fn_of_run (args := [_, _]) 14 Try.func62 rfl rfl rfl fun cs => ?_
  have S := Own.start (X := nob) w
  refine r_seq ?_
  refine r_region ?_
  refine l_box S rfl rfl ?_
  intro b4 w1 S2 hl3
  refine l_x rfl (x_as rfl) ?_
  refine l_nil ?_
  refine r_seq ?_
  refine r_seq ?_
  refine r_region ?_
  refine l_x rfl (x_load rfl (ld_blks (S2.blk 0 rfl) Try.isAgg24 Try.sizeOf24 rfl rfl)) ?_
  refine l_call [] [] [_] rfl rfl Try.call36 rfl (c_Check N va arcs _ (hA.le S2.le)) ?_
  rintro _ w5 ⟨rfl, hl7⟩
  have S6 := S2.step hl7
  refine l_x rfl (x_as rfl) ?_
  refine l_nil ?_
  refine r_seq ?_
  refine r_region ?_
  refine l_x rfl (x_mv rfl) ?_
  refine l_x rfl (x_neq rfl rfl) ?_
  refine l_nil ?_
  refine r_ifd rfl (fun hc9 => ?_) (fun hc9 => ?_)
  · skip
    refine r_seq ?_
    refine r_region ?_
    refine l_x rfl (x_mv rfl) ?_
    refine l_x rfl (x_as rfl) ?_
    refine l_nil ?_
    refine r_ret (rs := [.tmp 4]) [_] Try.func62 rfl ⟨rfl, trivial⟩ ?_
    exact ⟨congrArg (Value.int .i64) (by rw [askd, if_pos hc9]), S6.le⟩
  · skip
    refine r_skip ?_
    refine r_seq ?_
    refine r_seq ?_
    refine r_region ?_
    refine l_x rfl (x_mv rfl) ?_
    refine l_call [] caps ([] ++ caps) rfl rfl he rfl (hf (by simpa using hc9) _ S6.le) ?_
    rintro _ w8 ⟨rfl, hl10⟩
    have S9 := S6.step hl10
    refine l_x rfl (x_not rfl) ?_
    refine l_nil ?_
    refine r_if rfl (fun hc13 => ?_) (fun hc13 => ?_)
    · skip
      refine r_seq ?_
      refine r_region ?_
      refine l_x rfl (x_as rfl) ?_
      refine l_nil ?_
      refine r_ret (rs := [.tmp 4]) [_] Try.func62 rfl ⟨rfl, trivial⟩ ?_
      exact ⟨congrArg (Value.int .i64) (by rw [askd, if_neg hc9, if_neg (by simpa using hc13)]), S9.le⟩
    · skip
      refine r_skip ?_
      refine r_seq ?_
      refine r_region ?_
      refine l_x rfl (x_as rfl) ?_
      refine l_nil ?_
      refine r_ret (rs := [.tmp 4]) [_] Try.func62 rfl ⟨rfl, trivial⟩ ?_
      exact ⟨congrArg (Value.int .i64) (by rw [askd, if_neg hc9, if_pos (by simpa using hc13)]), S9.le⟩

/-- couchant/flow.row$1. -/
theorem c_row1 (x a b : Int) (b1 b2 : Nat) (w : World) (h1 : Blk w b1 [.int .i64 a] 3) (h2 : Blk w b2 [.int .i64 b] 3) :
    Cl Try.prog 134 #[.int .i64 x, .pointer (some ⟨b1, 0, none⟩), .pointer (some ⟨b2, 0, none⟩)] w fun v w' => v = .bool (!decide (a ≤ x ∧ x ≤ b)) ∧ Le w w' := by
  refine fn_of_run (args := [_, _, _]) 10 Try.func134 rfl rfl rfl fun cs => ?_
  have S := Own.start (X := nob) w
  refine r_seq ?_
  refine r_region ?_
  refine l_x rfl (x_as rfl) ?_
  refine l_nil ?_
  refine r_seq ?_
  refine r_region ?_
  refine l_x rfl (x_mv rfl) ?_
  refine l_x rfl (x_load rfl (ld_blk (h1.keep S.le id) Try.isAgg3 rfl)) ?_
  refine l_x rfl (x_load rfl (ld_blk (h2.keep S.le id) Try.isAgg3 rfl)) ?_
  refine l_call [] [] [_, _, _] rfl rfl Try.call64 rfl (c_in _ _ _ _) ?_
  rintro _ w1 ⟨rfl, hl3⟩
  have S2 := S.step hl3
  refine l_x rfl (x_notd rfl) ?_
  refine l_x rfl (x_as rfl) ?_
  refine l_nil ?_
  refine r_ret (rs := [.tmp 4]) [_] Try.func134 rfl ⟨rfl, trivial⟩ ?_
  exact ⟨congrArg Value.bool (by rw [decide_not]), S2.le⟩

/-- couchant/flow.row. -/
theorem c_row (vl : Value) (l : List Int) (n a b : Int) (hmx : l.length ≤ 9223372036854775807) (w : World) (hL : Rd EI w vl l) :
    Cl Try.prog 119 #[vl, .int .i64 n, .int .i64 a, .int .i64 b] w fun v w' => v = .bool (row l n a b) ∧ Le w w' := by
  refine fn_of_run (args := [_, _, _, _]) 19 Try.func119 rfl rfl rfl fun cs => ?_
  have S := Own.start (X := nob) w
  refine r_seq ?_
  refine r_region ?_
  refine l_box S rfl rfl ?_
  intro b4 w1 S2 hl3
  refine l_box S2 rfl rfl ?_
  intro b8 w5 S6 hl7
  refine l_x rfl (x_as rfl) ?_
  refine l_nil ?_
  refine r_seq ?_
  refine r_region ?_
  refine l_x rfl (x_mv rfl) ?_
  refine l_x rfl (x_len (hL.le S6.le) rfl Try.runUnderlying25) ?_
  refine l_x rfl (x_mv rfl) ?_
  refine l_x rfl (x_eql rfl rfl) ?_
  refine l_x rfl (x_mv rfl) ?_
  refine l_splitd (d := 13) rfl (fun hg13 => ?_) (fun hg13 => ?_)
  · skip
    refine l_x rfl (x_mv rfl) ?_
    refine l_x rfl (x_func rfl rfl) ?_
    refine l_call [] [] [_, _] rfl rfl Try.call111 rfl (c_ContainsFuncInt _ _ (fun x => !decide (a ≤ x ∧ x ≤ b)) 134 _ (by omega) _ (hL.le S6.le) Try.call134 (fun x hx w1 h1 => c_row1 x a b _ _ w1 ((S6.blk 0 rfl).keep h1 id) ((S6.blk 1 rfl).keep h1 id))) ?_
    rintro _ w9 ⟨rfl, hl11⟩
    have S10 := S6.step hl11
    refine l_x rfl (x_not rfl) ?_
    refine l_x rfl (x_pick_t rfl rfl) ?_
    refine l_x rfl (x_as rfl) ?_
    refine l_nil ?_
    refine r_ret (rs := [.tmp 8]) [_] Try.func119 rfl ⟨rfl, trivial⟩ ?_
    exact ⟨congrArg Value.bool (by simp only [row, decide_eq_true hg13, Bool.true_and]), S10.le⟩
  · skip
    refine l_pass rfl ?_
    refine l_pass rfl ?_
    refine l_pass rfl ?_
    refine l_pass rfl ?_
    refine l_x rfl (x_pick_f rfl rfl) ?_
    refine l_x rfl (x_as rfl) ?_
    refine l_nil ?_
    refine r_ret (rs := [.tmp 8]) [_] Try.func119 rfl ⟨rfl, trivial⟩ ?_
    exact ⟨congrArg Value.bool (by simp only [row, decide_eq_false hg13, Bool.false_and]), S6.le⟩

/-- couchant/flow.amounts. -/
theorem c_amounts (N : Int) (va : Value) (arcs : List Arc) (vl : Value) (l : List Int) (hmx : l.length ≤ 9223372036854775807) (w : World) (hA : Rd EA w va arcs) (hL : Rd EI w vl l) :
    Cl Try.prog 67 #[.agg #[.int .i64 N, va], vl] w fun v w' => v = .bool (row l arcs.length (0) 1000000) ∧ Le w w' := by
  refine fn_of_run (args := [_, _]) 10 Try.func67 rfl rfl rfl fun cs => ?_
  have S := Own.start (X := nob) w
  refine r_seq ?_
  refine r_region ?_
  refine l_box S rfl rfl ?_
  intro b4 w1 S2 hl3
  refine l_x rfl (x_as rfl) ?_
  refine l_nil ?_
  refine r_seq ?_
  refine r_region ?_
  refine l_x rfl (x_mv rfl) ?_
  refine l_x rfl (x_fieldAddr rfl Try.runUnderlying24 rfl Try.sizeOf22 (by decide)) ?_
  refine l_x rfl (x_load rfl (ld_blk (S2.blk 0 rfl) Try.isAgg22 rfl)) ?_
  refine l_x rfl (x_len (hA.le S2.le) rfl Try.runUnderlying22) ?_
  refine l_call [] [] [_, _, _, _] rfl rfl Try.call119 rfl (c_row _ _ _ _ _ (by omega) _ (hL.le S2.le)) ?_
  rintro _ w5 ⟨rfl, hl7⟩
  have S6 := S2.step hl7
  refine l_x rfl (x_as rfl) ?_
  refine l_nil ?_
  refine r_ret (rs := [.tmp 4]) [_] Try.func67 rfl ⟨rfl, trivial⟩ ?_
  exact ⟨rfl, S6.le⟩

/-- couchant/flow.weights. -/
theorem c_weights (N : Int) (va : Value) (arcs : List Arc) (vl : Value) (l : List Int) (hmx : l.length ≤ 9223372036854775807) (w : World) (hA : Rd EA w va arcs) (hL : Rd EI w vl l) :
    Cl Try.prog 70 #[.agg #[.int .i64 N, va], vl] w fun v w' => v = .bool (row l arcs.length (-1000) 1000) ∧ Le w w' := by
  refine fn_of_run (args := [_, _]) 10 Try.func70 rfl rfl rfl fun cs => ?_
  have S := Own.start (X := nob) w
  refine r_seq ?_
  refine r_region ?_
  refine l_box S rfl rfl ?_
  intro b4 w1 S2 hl3
  refine l_x rfl (x_as rfl) ?_
  refine l_nil ?_
  refine r_seq ?_
  refine r_region ?_
  refine l_x rfl (x_mv rfl) ?_
  refine l_x rfl (x_fieldAddr rfl Try.runUnderlying24 rfl Try.sizeOf22 (by decide)) ?_
  refine l_x rfl (x_load rfl (ld_blk (S2.blk 0 rfl) Try.isAgg22 rfl)) ?_
  refine l_x rfl (x_len (hA.le S2.le) rfl Try.runUnderlying22) ?_
  refine l_call [] [] [_, _, _, _] rfl rfl Try.call119 rfl (c_row _ _ _ _ _ (by omega) _ (hL.le S2.le)) ?_
  rintro _ w5 ⟨rfl, hl7⟩
  have S6 := S2.step hl7
  refine l_x rfl (x_as rfl) ?_
  refine l_nil ?_
  refine r_ret (rs := [.tmp 4]) [_] Try.func70 rfl ⟨rfl, trivial⟩ ?_
  exact ⟨rfl, S6.le⟩

/-- couchant/flow.potentials. -/
theorem c_potentials (N : Int) (va : Value) (vl : Value) (l : List Int) (hmx : l.length ≤ 9223372036854775807) (w : World) (hL : Rd EI w vl l) :
    Cl Try.prog 89 #[.agg #[.int .i64 N, va], vl] w fun v w' => v = .bool (row l N (-10000000) 10000000) ∧ Le w w' := by
  refine fn_of_run (args := [_, _]) 9 Try.func89 rfl rfl rfl fun cs => ?_
  have S := Own.start (X := nob) w
  refine r_seq ?_
  refine r_region ?_
  refine l_box S rfl rfl ?_
  intro b4 w1 S2 hl3
  refine l_x rfl (x_as rfl) ?_
  refine l_nil ?_
  refine r_seq ?_
  refine r_region ?_
  refine l_x rfl (x_mv rfl) ?_
  refine l_x rfl (x_fieldAddr rfl Try.runUnderlying24 rfl Try.sizeOf3 (by decide)) ?_
  refine l_x rfl (x_load rfl (ld_blk (S2.blk 0 rfl) Try.isAgg3 rfl)) ?_
  refine l_call [] [] [_, _, _, _] rfl rfl Try.call119 rfl (c_row _ _ _ _ _ (by omega) _ (hL.le S2.le)) ?_
  rintro _ w5 ⟨rfl, hl7⟩
  have S6 := S2.step hl7
  refine l_x rfl (x_as rfl) ?_
  refine l_nil ?_
  refine r_ret (rs := [.tmp 4]) [_] Try.func89 rfl ⟨rfl, trivial⟩ ?_
  exact ⟨rfl, S6.le⟩

end Go.Proofs

/-
  Contracts of functions of the program: each by symbolic execution of its text.
-/
namespace Go.Proofs
open Go Go.Vk Go.Vk.Flow

/-- couchant/flow.kept. -/
theorem c_kept (N : Int) (va : Value) (arcs : List Arc) (vx : Value) (x : List Int) (hV : Valid N arcs) (hx : Amts arcs x) (w : World) (hA : Rd EA w va arcs) (hX : Rd EI w vx x) :
    Cl Try.prog 68 #[.agg #[.int .i64 N, va], vx] w fun v w' => v = .bool (Flow.kept 1000 arcs x) ∧ Le w w' := by
  have hNx := hV.max
  have hLx := hV.len
  refine fn_of_run (args := [_, _]) 50 Try.func68 rfl rfl rfl fun cs => ?_
  have S := Own.start (X := nob) w
  refine r_seq ?_
  refine r_region ?_
  refine l_box S rfl rfl ?_
  intro b4 w1 S2 hl3
  refine l_x rfl (x_as rfl) ?_
  refine l_nil ?_
  refine r_seq ?_
  refine r_region ?_
  refine l_alloc S2 rfl Try.zeroValue89 zcT ?_
  intro b8 w5 S6 hl7
  refine l_nil ?_
  refine r_seq ?_
  refine r_seq ?_
  refine r_region ?_
  refine l_x rfl (x_fieldAddr rfl Try.runUnderlying24 rfl Try.sizeOf22 (by decide)) ?_
  refine l_x rfl (x_load rfl (ld_blk (S6.blk 0 rfl) Try.isAgg22 rfl)) ?_
  refine l_x rfl (x_len (hA.le S6.le) rfl Try.runUnderlying22) ?_
  refine l_x rfl (x_mv rfl) ?_
  refine l_nil ?_
  refine r_block ?_
  refine r_loop (G := Nat) (fun i => arcs.length - i) (fun i => [(1, vx), (9, va), (11, .int .i64 i), (10, .int .i64 arcs.length), (2, .pointer (some ⟨b4, 0, none⟩)), (5, .pointer (some ⟨b8, 0, none⟩))]) (fun i w' => (i ≤ arcs.length) ∧ (within (arcs.take i) (x.take i) = true) ∧ Own nob w w' [blk b4 [.int .i64 N, va] 24, blk b8 (tab 1000 (ex (arcs.take i) (x.take i))) 89]) 0 ⟨rfl, rfl, rfl, rfl, rfl, rfl, trivial⟩ ⟨Nat.zero_le _, by simp [within], (by rw [ex_zero]; exact S6)⟩ ?_
  rintro i ρ w1 ⟨hi, hw, S1⟩ IH
  refine r_seq ?_
  refine r_region ?_
  refine l_x rfl (x_lss rfl rfl) ?_
  refine l_nil ?_
  refine r_seq ?_
  refine r_ifd rfl (fun hc12 => ?_) (fun hc12 => ?_)
  · skip
    obtain ⟨a, ha⟩ : ∃ a, arcs[i]? = some a := ⟨_, List.getElem?_eq_getElem (by omega)⟩
    obtain ⟨y, hy⟩ : ∃ y, x[i]? = some y := ⟨_, List.getElem?_eq_getElem (by have := hx.len; omega)⟩
    have hok := hV.at ha
    have hyb := hx.at hy
    refine r_skip ?_
    refine r_seq ?_
    refine r_block ?_
    refine r_seq ?_
    refine r_region ?_
    refine l_x rfl (x_mv rfl) ?_
    refine l_index EA rfl (hA.le S1.le) rfl rfl Try.runUnderlying22 Try.sizeOf39 (by omega) (by first | assumption | exact List.getElem?_eq_getElem (by omega)) ?_
    intro b9 o10 hat11 row12
    refine l_x rfl (x_load rfl (ld_row Try.isAgg39 Try.sizeOf39 rfl row12)) ?_
    refine l_alloc S1 rfl Try.zeroValue39 rfl ?_
    intro b16 w13 S14 hl15
    refine l_x rfl (x_as rfl) ?_
    refine l_stores S14 2 rfl rfl rfl rfl (EA.one _) Try.sizeOf39 (by first | exact Nat.le_refl _ | simp) (splice_all rfl) ?_
    intro w17 S18 hk19
    refine l_nil ?_
    refine r_seq ?_
    refine r_seq ?_
    refine r_drawR 10 Try.mixed (by kernel_rfl) ?_
    refine w_x rfl (fun w1 h1 => x_mv rfl) ?_
    refine w_x rfl (fun w1 h1 => x_mv rfl) ?_
    refine w_index EI rfl (hX.le S18.le) rfl rfl Try.runUnderlying25 Try.sizeOf3 (by omega) (by first | assumption | exact List.getElem?_eq_getElem (by omega)) ?_
    intro b20 o21 hat22 row23
    refine w_x rfl (fun w1 h1 => x_load rfl (ld_cell Try.isAgg3 ((row23.le h1) 0 _ rfl))) ?_
    refine w_x rfl (fun w1 h1 => x_fieldAddr rfl Try.runUnderlying39 rfl Try.sizeOf3 (by decide)) ?_
    refine w_x rfl (fun w1 h1 => x_load rfl (ld_blk ((S18.step h1).blk 2 rfl) Try.isAgg3 rfl)) ?_
    refine w_x rfl (fun w1 h1 => x_fieldAddr rfl Try.runUnderlying39 rfl Try.sizeOf3 (by decide)) ?_
    refine w_x rfl (fun w1 h1 => x_load rfl (ld_blk ((S18.step h1).blk 2 rfl) Try.isAgg3 rfl)) ?_
    refine wd_call [] [] [_, _, _] rfl rfl Try.call64 rfl (fun w1 h1 => c_in _ _ _ _) ?_
    refine w_x rfl (fun w1 h1 => x_notd rfl) ?_
    refine w_nil ?_
    intro w24 hl25
    have S26 := S18.step hl25
    refine l_nil ?_
    refine r_ifd rfl (fun hc25 => ?_) (fun hc25 => ?_)
    · skip
      refine r_seq ?_
      refine r_region ?_
      refine l_x rfl (x_as rfl) ?_
      refine l_nil ?_
      refine r_ret (rs := [.tmp 4]) [_] Try.func68 rfl ⟨rfl, trivial⟩ ?_
      exact ⟨congrArg Value.bool (by rw [Flow.kept, within_ge (i := i + 1) (by rw [within_take ha hy, hw, decide_eq_false hc25]; rfl)]; rfl), S26.le⟩
    · skip
      have hw' : within (arcs.take (i + 1)) (x.take (i + 1)) = true := by rw [within_take ha hy, hw, decide_eq_true (by omega)]; rfl
      refine r_skip ?_
      refine r_seq ?_
      have hb1 := ex_bd_take hV hx i a.dst.toNat
      refine r_drawR 10 Try.mixed (by kernel_rfl) ?_
      refine w_x rfl (fun w1 h1 => x_fieldAddr rfl Try.runUnderlying39 rfl Try.sizeOf3 (by decide)) ?_
      refine w_x rfl (fun w1 h1 => x_load rfl (ld_blk ((S26.step h1).blk 2 rfl) Try.isAgg3 rfl)) ?_
      refine w_x rfl (fun w1 h1 => x_indexAddr_array rfl rfl Try.runUnderlying89 Try.sizeOf3 (by omega)) ?_
      refine w_x rfl (fun w1 h1 => x_load rfl (ld_blk ((S26.step h1).blk 1 rfl) Try.isAgg3 (tabs_get rfl (by omega)))) ?_
      refine w_x rfl (fun w1 h1 => x_mv rfl) ?_
      refine w_x rfl (fun w1 h1 => x_mv rfl) ?_
      refine w_index EI rfl (hX.le S26.le) rfl rfl Try.runUnderlying25 Try.sizeOf3 (by omega) (by first | assumption | exact List.getElem?_eq_getElem (by omega)) ?_
      intro b27 o28 hat29 row30
      refine w_x rfl (fun w1 h1 => x_load rfl (ld_cell Try.isAgg3 ((row30.le h1) 0 _ rfl))) ?_
      refine w_x rfl (fun w1 h1 => x_add rfl rfl (by omega)) ?_
      refine w_x rfl (fun w1 h1 => x_indexAddr_array rfl rfl Try.runUnderlying89 Try.sizeOf3 (by omega)) ?_
      refine w_nil ?_
      intro w31 hl32
      have S33 := S26.step hl32
      refine l_storeq S33 1 rfl rfl rfl rfl rfl Try.sizeOf3 (tabs_lt rfl (by omega)) (tabs_set rfl (by omega)) ?_
      intro w34 S35 hk36
      refine l_nil ?_
      have hb2 := ex_bd_take hV hx i a.src.toNat
      have hb3 : -5000000000 ≤ upf (ex (arcs.take i) (x.take i)) a.dst.toNat (ex (arcs.take i) (x.take i) a.dst.toNat + y) a.src.toNat ∧ upf (ex (arcs.take i) (x.take i)) a.dst.toNat (ex (arcs.take i) (x.take i) a.dst.toNat + y) a.src.toNat ≤ 5000000000 := by
        unfold upf; split <;> omega
      refine r_drawR 10 Try.mixed (by kernel_rfl) ?_
      refine w_x rfl (fun w1 h1 => x_fieldAddr rfl Try.runUnderlying39 rfl Try.sizeOf3 (by decide)) ?_
      refine w_x rfl (fun w1 h1 => x_load rfl (ld_blk ((S35.step h1).blk 2 rfl) Try.isAgg3 rfl)) ?_
      refine w_x rfl (fun w1 h1 => x_indexAddr_array rfl rfl Try.runUnderlying89 Try.sizeOf3 (by omega)) ?_
      refine w_x rfl (fun w1 h1 => x_load rfl (ld_blk ((S35.step h1).blk 1 rfl) Try.isAgg3 (tabs_get rfl (by omega)))) ?_
      refine w_x rfl (fun w1 h1 => x_mv rfl) ?_
      refine w_x rfl (fun w1 h1 => x_mv rfl) ?_
      refine w_index EI rfl (hX.le S35.le) rfl rfl Try.runUnderlying25 Try.sizeOf3 (by omega) (by first | assumption | exact List.getElem?_eq_getElem (by omega)) ?_
      intro b37 o38 hat39 row40
      refine w_x rfl (fun w1 h1 => x_load rfl (ld_cell Try.isAgg3 ((row40.le h1) 0 _ rfl))) ?_
      refine w_x rfl (fun w1 h1 => x_sub rfl rfl (by omega)) ?_
      refine w_x rfl (fun w1 h1 => x_indexAddr_array rfl rfl Try.runUnderlying89 Try.sizeOf3 (by omega)) ?_
      refine w_nil ?_
      intro w41 hl42
      have S43 := S35.step hl42
      refine l_storeq S43 1 rfl rfl rfl rfl rfl Try.sizeOf3 (tabs_lt rfl (by omega)) (tabs_set rfl (by omega)) ?_
      intro w44 S45 hk46
      refine l_nil ?_
      refine r_inBlock ?_
      refine r_region ?_
      refine l_x rfl (x_add rfl rfl (by omega)) ?_
      refine l_x rfl (x_mv rfl) ?_
      refine l_nil ?_
      exact IH (i + 1) _ _ (by omega) ⟨rfl, rfl, rfl, rfl, rfl, rfl, trivial⟩ ⟨by omega, hw', (by rw [← ex_step ha hy (by omega) (by omega) rfl]; exact S45.take 2)⟩
  · skip
    have hi : i = arcs.length := by omega
    subst hi
    rw [List.take_length, ← hx.len, List.take_length] at *
    refine r_exit rfl ?_
    refine r_seq ?_
    refine r_region ?_
    refine l_x rfl (x_load rfl (ld_blks (S1.blk 1 rfl) Try.isAgg89 Try.sizeOf89 tabs_all (tab_length ..))) ?_
    refine l_x rfl (x_buildz Try.zeroValue89 zcT Try.runUnderlying89 Try.sizeOf3) ?_
    refine l_x rfl (x_eqtab Try.underlying89 info3 cellsI Try.underlying3 Try.isAgg3 Try.eqGuardType89 rfl rfl) ?_
    refine l_x rfl (x_as rfl) ?_
    refine l_nil ?_
    refine r_ret (rs := [.tmp 4]) [_] Try.func68 rfl ⟨rfl, trivial⟩ ?_
    exact ⟨congrArg Value.bool (by rw [Flow.kept, hw, Bool.true_and]), S1.le⟩

end Go.Proofs

/-
  Contracts of functions of the program: each by symbolic execution of its text.
-/
namespace Go.Proofs
open Go Go.Vk Go.Vk.Flow

/-- couchant/flow.Kept$1. -/
theorem c_Kept1 (N : Int) (va : Value) (arcs : List Arc) (vx : Value) (x : List Int) (b0 b1 : Nat) (hmx : x.length ≤ 9223372036854775807) (w : World) (h0 : Blk w b0 [.int .i64 N, va] 24) (h1 : Blk w b1 [vx] 25)  (hA : Rd EA w va arcs) (Hx : Rd EI w vx x) :
    Cl Try.prog 66 #[.pointer (some ⟨b0, 0, none⟩), .pointer (some ⟨b1, 0, none⟩)] w fun v w' => v = .bool (row x arcs.length 0 1000000) ∧ Le w w' := by
  refine fn_of_run (args := [_, _]) 6 Try.func66 rfl rfl rfl fun cs => ?_
  have S := Own.start (X := nob) w
  refine r_seq ?_
  refine r_region ?_
  refine l_x rfl (x_as rfl) ?_
  refine l_nil ?_
  refine r_seq ?_
  refine r_region ?_
  refine l_x rfl (x_load rfl (ld_blks (h0.keep S.le id) Try.isAgg24 Try.sizeOf24 rfl rfl)) ?_
  refine l_x rfl (x_load rfl (ld_blk (h1.keep S.le id) Try.isAgg25 rfl)) ?_
  refine l_call [] [] [_, _] rfl rfl Try.call67 rfl (c_amounts N _ arcs _ _ (by omega) _ (hA.le S.le) (Hx.le S.le)) ?_
  rintro _ w1 ⟨rfl, hl3⟩
  have S2 := S.step hl3
  refine l_x rfl (x_as rfl) ?_
  refine l_nil ?_
  refine r_ret (rs := [.tmp 2]) [_] Try.func66 rfl ⟨rfl, trivial⟩ ?_
  exact ⟨congrArg Value.bool (by simp [*]), S2.le⟩

/-- couchant/flow.Kept. -/
theorem c_Kept (N : Int) (va : Value) (arcs : List Arc) (vx : Value) (x : List Int) (hmx : x.length ≤ 9223372036854775807) (w : World) (hA : Rd EA w va arcs) (Hx : Rd EI w vx x) :
    Cl Try.prog 21 #[.agg #[.int .i64 N, va], vx] w fun v w' => v = .tuple #[.bool (decide (askd N arcs (row x arcs.length 0 1000000) = 0) && Flow.kept 1000 arcs x), .int .i64 (askd N arcs (row x arcs.length 0 1000000))] ∧ Le w w' := by
  refine fn_of_run (args := [_, _]) 16 Try.func21 rfl rfl rfl fun cs => ?_
  have S := Own.start (X := nob) w
  refine r_seq ?_
  refine r_region ?_
  refine l_box S rfl rfl ?_
  intro b4 w1 S2 hl3
  refine l_box S2 rfl (Rd.cells (Hx.le S2.le)) ?_
  intro b8 w5 S6 hl7
  refine l_x rfl (x_as rfl) ?_
  refine l_x rfl (x_as rfl) ?_
  refine l_nil ?_
  refine r_seq ?_
  refine r_seq ?_
  refine r_region ?_
  refine l_x rfl (x_load rfl (ld_blks (S6.blk 0 rfl) Try.isAgg24 Try.sizeOf24 rfl rfl)) ?_
  refine l_x rfl (x_func rfl rfl) ?_
  refine l_call [] [] [_, _] rfl rfl Try.call62 rfl (c_asked N va arcs (row x arcs.length 0 1000000) 66 [_, _] _ (hA.le S6.le) Try.call66 (fun _ w1 h1 => c_Kept1 N va arcs vx x _ _ (by omega) w1 ((S6.blk 0 rfl).keep h1 id) ((S6.blk 1 rfl).keep h1 id) (hA.le (S6.le.trans h1)) (Hx.le (S6.le.trans h1)))) ?_
  rintro _ w9 ⟨rfl, hl11⟩
  have S10 := S6.step hl11
  refine l_x rfl (x_as rfl) ?_
  refine l_nil ?_
  refine r_seq ?_
  refine r_region ?_
  refine l_x rfl (x_mv rfl) ?_
  refine l_x rfl (x_neq rfl rfl) ?_
  refine l_nil ?_
  refine r_ifd rfl (fun hc11 => ?_) (fun hc11 => ?_)
  · skip
    refine r_seq ?_
    refine r_region ?_
    refine l_x rfl (x_mv rfl) ?_
    refine l_x rfl (x_as rfl) ?_
    refine l_x rfl (x_as rfl) ?_
    refine l_nil ?_
    refine r_ret (rs := [.tmp 4, .tmp 5]) [_, _] Try.func21 rfl ⟨rfl, rfl, trivial⟩ ?_
    exact ⟨by show Value.tuple #[.bool false, .int .i64 _] = _; simp [hc11], S10.le⟩
  · skip
    have h0 := Decidable.not_not.1 hc11
    obtain ⟨hV, hq⟩ := askd_zero.1 h0
    have hx := row_amts.1 hq
    refine r_skip ?_
    refine r_seq ?_
    refine r_region ?_
    refine l_x rfl (x_load rfl (ld_blks (S10.blk 0 rfl) Try.isAgg24 Try.sizeOf24 rfl rfl)) ?_
    refine l_x rfl (x_load rfl (ld_blk (S10.blk 1 rfl) Try.isAgg25 rfl)) ?_
    refine l_call [] [] [_, _] rfl rfl Try.call68 rfl (c_kept N va arcs _ _ hV hx _ (hA.le S10.le) (Hx.le S10.le)) ?_
    rintro _ w12 ⟨rfl, hl14⟩
    have S13 := S10.step hl14
    refine l_x rfl (x_as rfl) ?_
    refine l_x rfl (x_as rfl) ?_
    refine l_nil ?_
    refine r_ret (rs := [.tmp 4, .tmp 5]) [_, _] Try.func21 rfl ⟨rfl, rfl, trivial⟩ ?_
    exact ⟨by show Value.tuple #[.bool _, .int .i64 0] = _; simp [h0], S13.le⟩

/-- couchant/flow.sum. -/
theorem c_sum (arcs : List Arc) (N : Int) (vw : Value) (wl : List Int) (vx : Value) (x : List Int) (hV : Valid N arcs) (hw : Wts arcs wl) (hx : Amts arcs x) (w : World) (Hwl : Rd EI w vw wl) (Hx : Rd EI w vx x) :
    Cl Try.prog 72 #[vw, vx] w fun v w' => v = .int .i64 (dot wl x) ∧ Le w w' := by
  have hLx := hV.len
  have hxl := hx.len
  have hwl := hw.len
  refine fn_of_run (args := [_, _]) 25 Try.func72 rfl rfl rfl fun cs => ?_
  have S := Own.start (X := nob) w
  refine r_seq ?_
  refine r_region ?_
  refine l_x rfl (x_as rfl) ?_
  refine l_nil ?_
  refine r_seq ?_
  refine r_region ?_
  refine l_x rfl (x_as rfl) ?_
  refine l_nil ?_
  refine r_seq ?_
  refine r_seq ?_
  refine r_region ?_
  refine l_x rfl (x_mv rfl) ?_
  refine l_x rfl (x_len (Hwl.le S.le) rfl Try.runUnderlying25) ?_
  refine l_x rfl (x_mv rfl) ?_
  refine l_nil ?_
  refine r_block ?_
  refine r_loop (G := Nat) (fun i => wl.length - i) (fun i => [(0, vw), (1, vx), (9, .int .i64 i), (8, .int .i64 wl.length), (5, .int .i64 (dot (wl.take i) (x.take i)))]) (fun i w' => (i ≤ wl.length) ∧ Own nob w w' []) 0 ⟨rfl, rfl, rfl, rfl, (congrArg (Value.int .i64) (by simp [dot] : (0:Int) = dot (wl.take 0) (x.take 0))), trivial⟩ ⟨Nat.zero_le _, (S.take 0)⟩ ?_
  rintro i ρ w1 ⟨hi, S1⟩ IH
  refine r_seq ?_
  refine r_region ?_
  refine l_x rfl (x_lss rfl rfl) ?_
  refine l_nil ?_
  refine r_seq ?_
  refine r_ifd rfl (fun hc10 => ?_) (fun hc10 => ?_)
  · skip
    obtain ⟨a, ha⟩ : ∃ a, wl[i]? = some a := ⟨_, List.getElem?_eq_getElem (by omega)⟩
    obtain ⟨y, hy⟩ : ∃ y, x[i]? = some y := ⟨_, List.getElem?_eq_getElem (by omega)⟩
    have hb1 := mul_bd (hw.at ha) (hx.at hy) (by omega)
    have hb2 := dot_bd_take (by omega) hw.bd hx.bd i
    refine r_skip ?_
    refine r_seq ?_
    refine r_block ?_
    refine r_seq ?_
    refine r_region ?_
    refine l_x rfl (x_mv rfl) ?_
    refine l_x rfl (x_as rfl) ?_
    refine l_nil ?_
    refine r_drawR 12 Try.mixed (by kernel_rfl) ?_
    refine w_x rfl (fun w1 h1 => x_mv rfl) ?_
    refine w_x rfl (fun w1 h1 => x_mv rfl) ?_
    refine w_x rfl (fun w1 h1 => x_mv rfl) ?_
    refine w_index EI rfl (Hwl.le S1.le) rfl rfl Try.runUnderlying25 Try.sizeOf3 (by omega) (by first | assumption | exact List.getElem?_eq_getElem (by omega)) ?_
    intro b1 o2 hat3 row4
    refine w_x rfl (fun w1 h1 => x_load rfl (ld_cell Try.isAgg3 ((row4.le h1) 0 _ rfl))) ?_
    refine w_x rfl (fun w1 h1 => x_mv rfl) ?_
    refine w_x rfl (fun w1 h1 => x_mv rfl) ?_
    refine w_index EI rfl (Hx.le S1.le) rfl rfl Try.runUnderlying25 Try.sizeOf3 (by omega) (by first | assumption | exact List.getElem?_eq_getElem (by omega)) ?_
    intro b5 o6 hat7 row8
    refine w_x rfl (fun w1 h1 => x_load rfl (ld_cell Try.isAgg3 ((row8.le h1) 0 _ rfl))) ?_
    refine w_x rfl (fun w1 h1 => x_mul rfl rfl (by omega)) ?_
    refine w_x rfl (fun w1 h1 => x_add rfl rfl (by omega)) ?_
    refine w_x rfl (fun w1 h1 => x_as rfl) ?_
    refine w_nil ?_
    intro w9 hl10
    have S11 := S1.step hl10
    refine l_nil ?_
    refine r_inBlock ?_
    refine r_region ?_
    refine l_x rfl (x_add rfl rfl (by omega)) ?_
    refine l_x rfl (x_mv rfl) ?_
    refine l_nil ?_
    exact IH (i + 1) _ _ (by omega) ⟨rfl, rfl, rfl, rfl, (congrArg (Value.int .i64) (dot_take ha hy).symm), trivial⟩ ⟨by omega, (S11.take 0)⟩
  · skip
    have hi : i = wl.length := by omega
    subst hi
    refine r_exit rfl ?_
    refine r_seq ?_
    refine r_region ?_
    refine l_x rfl (x_mv rfl) ?_
    refine l_x rfl (x_as rfl) ?_
    refine l_nil ?_
    refine r_ret (rs := [.tmp 4]) [_] Try.func72 rfl ⟨rfl, trivial⟩ ?_
    exact ⟨congrArg (Value.int .i64) (by rw [List.take_length, List.take_of_length_le (by omega)]), S1.le⟩

/-- couchant/flow.Sum$1. -/
theorem c_Sum1 (N : Int) (va : Value) (arcs : List Arc) (vw : Value) (wl : List Int) (vx : Value) (x : List Int) (b0 b1 b2 : Nat) (hmwl : wl.length ≤ 9223372036854775807) (hmx : x.length ≤ 9223372036854775807) (w : World) (h0 : Blk w b0 [.int .i64 N, va] 24) (h1 : Blk w b1 [vw] 25) (h2 : Blk w b2 [vx] 25)  (hA : Rd EA w va arcs) (Hwl : Rd EI w vw wl) (Hx : Rd EI w vx x) :
    Cl Try.prog 87 #[.pointer (some ⟨b0, 0, none⟩), .pointer (some ⟨b1, 0, none⟩), .pointer (some ⟨b2, 0, none⟩)] w fun v w' => v = .bool (row wl arcs.length (-1000) 1000 && row x arcs.length 0 1000000) ∧ Le w w' := by
  refine fn_of_run (args := [_, _, _]) 12 Try.func87 rfl rfl rfl fun cs => ?_
  have S := Own.start (X := nob) w
  refine r_seq ?_
  refine r_region ?_
  refine l_x rfl (x_as rfl) ?_
  refine l_nil ?_
  refine r_seq ?_
  refine r_region ?_
  refine l_x rfl (x_load rfl (ld_blks (h0.keep S.le id) Try.isAgg24 Try.sizeOf24 rfl rfl)) ?_
  refine l_x rfl (x_load rfl (ld_blk (h1.keep S.le id) Try.isAgg25 rfl)) ?_
  refine l_call [] [] [_, _] rfl rfl Try.call70 rfl (c_weights N _ arcs _ _ (by omega) _ (hA.le S.le) (Hwl.le S.le)) ?_
  rintro _ w1 ⟨rfl, hl3⟩
  have S2 := S.step hl3
  refine l_x rfl (x_mv rfl) ?_
  refine l_split (d := 7) rfl (fun hg7 => ?_) (fun hg7 => ?_)
  · skip
    refine l_x rfl (x_load rfl (ld_blks (h0.keep S2.le id) Try.isAgg24 Try.sizeOf24 rfl rfl)) ?_
    refine l_x rfl (x_load rfl (ld_blk (h2.keep S2.le id) Try.isAgg25 rfl)) ?_
    refine l_call [] [] [_, _] rfl rfl Try.call67 rfl (c_amounts N _ arcs _ _ (by omega) _ (hA.le S2.le) (Hx.le S2.le)) ?_
    rintro _ w4 ⟨rfl, hl6⟩
    have S5 := S2.step hl6
    refine l_x rfl (x_pick_t rfl rfl) ?_
    refine l_x rfl (x_as rfl) ?_
    refine l_nil ?_
    refine r_ret (rs := [.tmp 3]) [_] Try.func87 rfl ⟨rfl, trivial⟩ ?_
    exact ⟨congrArg Value.bool (by simp [*]), S5.le⟩
  · skip
    refine l_pass rfl ?_
    refine l_pass rfl ?_
    refine l_pass rfl ?_
    refine l_x rfl (x_pick_f rfl rfl) ?_
    refine l_x rfl (x_as rfl) ?_
    refine l_nil ?_
    refine r_ret (rs := [.tmp 3]) [_] Try.func87 rfl ⟨rfl, trivial⟩ ?_
    exact ⟨congrArg Value.bool (by simp [*]), S2.le⟩

/-- couchant/flow.Sum. -/
theorem c_Sum (N : Int) (va : Value) (arcs : List Arc) (vw : Value) (wl : List Int) (vx : Value) (x : List Int) (hmwl : wl.length ≤ 9223372036854775807) (hmx : x.length ≤ 9223372036854775807) (w : World) (hA : Rd EA w va arcs) (Hwl : Rd EI w vw wl) (Hx : Rd EI w vx x) :
    Cl Try.prog 32 #[.agg #[.int .i64 N, va], vw, vx] w fun v w' => v = .tuple #[.int .i64 (if askd N arcs (row wl arcs.length (-1000) 1000 && row x arcs.length 0 1000000) = 0 then dot wl x else 0), .int .i64 (askd N arcs (row wl arcs.length (-1000) 1000 && row x arcs.length 0 1000000))] ∧ Le w w' := by
  refine fn_of_run (args := [_, _, _]) 18 Try.func32 rfl rfl rfl fun cs => ?_
  have S := Own.start (X := nob) w
  refine r_seq ?_
  refine r_region ?_
  refine l_box S rfl rfl ?_
  intro b4 w1 S2 hl3
  refine l_box S2 rfl (Rd.cells (Hwl.le S2.le)) ?_
  intro b8 w5 S6 hl7
  refine l_box S6 rfl (Rd.cells (Hx.le S6.le)) ?_
  intro b12 w9 S10 hl11
  refine l_x rfl (x_as rfl) ?_
  refine l_x rfl (x_as rfl) ?_
  refine l_nil ?_
  refine r_seq ?_
  refine r_seq ?_
  refine r_region ?_
  refine l_x rfl (x_load rfl (ld_blks (S10.blk 0 rfl) Try.isAgg24 Try.sizeOf24 rfl rfl)) ?_
  refine l_x rfl (x_func rfl rfl) ?_
  refine l_call [] [] [_, _] rfl rfl Try.call62 rfl (c_asked N va arcs (row wl arcs.length (-1000) 1000 && row x arcs.length 0 1000000) 87 [_, _, _] _ (hA.le S10.le) Try.call87 (fun _ w1 h1 => c_Sum1 N va arcs vw wl vx x _ _ _ (by omega) (by omega) w1 ((S10.blk 0 rfl).keep h1 id) ((S10.blk 1 rfl).keep h1 id) ((S10.blk 2 rfl).keep h1 id) (hA.le (S10.le.trans h1)) (Hwl.le (S10.le.trans h1)) (Hx.le (S10.le.trans h1)))) ?_
  rintro _ w13 ⟨rfl, hl15⟩
  have S14 := S10.step hl15
  refine l_x rfl (x_as rfl) ?_
  refine l_nil ?_
  refine r_seq ?_
  refine r_region ?_
  refine l_x rfl (x_mv rfl) ?_
  refine l_x rfl (x_neq rfl rfl) ?_
  refine l_nil ?_
  refine r_ifd rfl (fun hc13 => ?_) (fun hc13 => ?_)
  · skip
    refine r_seq ?_
    refine r_region ?_
    refine l_x rfl (x_mv rfl) ?_
    refine l_x rfl (x_as rfl) ?_
    refine l_x rfl (x_as rfl) ?_
    refine l_nil ?_
    refine r_ret (rs := [.tmp 6, .tmp 7]) [_, _] Try.func32 rfl ⟨rfl, rfl, trivial⟩ ?_
    exact ⟨by show Value.tuple #[.int .i64 0, .int .i64 _] = _; simp [hc13], S14.le⟩
  · skip
    have h0 := Decidable.not_not.1 hc13
    obtain ⟨hV, hq⟩ := askd_zero.1 h0
    rw [Bool.and_eq_true] at hq
    have hw := row_wts.1 hq.1
    have hx := row_amts.1 hq.2
    refine r_skip ?_
    refine r_seq ?_
    refine r_region ?_
    refine l_x rfl (x_load rfl (ld_blk (S14.blk 1 rfl) Try.isAgg25 rfl)) ?_
    refine l_x rfl (x_load rfl (ld_blk (S14.blk 2 rfl) Try.isAgg25 rfl)) ?_
    refine l_call [] [] [_, _] rfl rfl Try.call72 rfl (c_sum arcs N _ _ _ _ hV hw hx _ (Hwl.le S14.le) (Hx.le S14.le)) ?_
    rintro _ w16 ⟨rfl, hl18⟩
    have S17 := S14.step hl18
    refine l_x rfl (x_as rfl) ?_
    refine l_x rfl (x_as rfl) ?_
    refine l_nil ?_
    refine r_ret (rs := [.tmp 6, .tmp 7]) [_, _] Try.func32 rfl ⟨rfl, rfl, trivial⟩ ?_
    exact ⟨by show Value.tuple #[.int .i64 _, .int .i64 0] = _; simp [h0], S17.le⟩

end Go.Proofs

/-
  Contracts of functions of the program: each by symbolic execution of its text.
-/
namespace Go.Proofs
open Go Go.Vk Go.Vk.Flow

/-- couchant/flow.bound. -/
theorem c_bound (N : Int) (va : Value) (arcs : List Arc) (vw : Value) (wl : List Int) (vp : Value) (p : List Int) (kf : Nat) (caps : List Value) (R : List (Arc × Bool) → Rsc → Prop) (w0 : World) (hV : Valid N arcs) (hw : Wts arcs wl) (hp : Pts N p)
    (he : ∀ args w, (callFunc kf args).run Try.prog w = .ok (.enter kf args) w)
    (ht : ∀ t r a h w1, R t r → a ∈ arcs → t.length < 4000 → Own r.fp w1 w1 [r] → Cl Try.prog kf ([Value.agg a.enc.toArray, Value.bool h] ++ caps).toArray w1 fun _ w2 => ∃ r', R (t ++ [(a, h)]) r' ∧ Own r.fp w1 w2 [r'])
    (hA : Rd EA w0 va arcs) (Hwl : Rd EI w0 vw wl) (Hp : Rd EI w0 vp p) (r : Rsc) (hr : R [] r) (w : World) (S : Own r.fp w w [r]) (h0 : Le w0 w) (hX : ∀ b, r.fp b → w0.heap.size ≤ b) :
    Cl Try.prog 90 #[.agg #[.int .i64 N, va], vw, vp, .func (.func kf) #[] caps.toArray] w fun v w' => v = .int .i64 (bnd p arcs wl) ∧ ∃ r', R (told p arcs wl) r' ∧ Own r.fp w w' [r'] := by
  have hLx := hV.len
  have hNx := hV.max
  have hwl := hw.len
  have hpl := hp.len
  refine fn_of_run (args := [_, _, _, _]) 63 Try.func90 rfl rfl rfl fun cs => ?_
  refine r_seq ?_
  refine r_region ?_
  refine l_box S rfl rfl ?_
  intro b4 w1 S2 hl3
  refine l_x rfl (x_as rfl) ?_
  refine l_nil ?_
  refine r_seq ?_
  refine r_region ?_
  refine l_x rfl (x_as rfl) ?_
  refine l_nil ?_
  refine r_seq ?_
  refine r_seq ?_
  refine r_region ?_
  refine l_x rfl (x_fieldAddr rfl Try.runUnderlying24 rfl Try.sizeOf22 (by decide)) ?_
  refine l_x rfl (x_load rfl (ld_blk (S2.blk 1 rfl) Try.isAgg22 rfl)) ?_
  refine l_x rfl (x_len (hA.le (S2.old h0 hX)) rfl Try.runUnderlying22) ?_
  refine l_x rfl (x_mv rfl) ?_
  refine l_nil ?_
  refine r_block ?_
  refine r_loop (G := Nat × Rsc) (fun ⟨i, r1⟩ => arcs.length - i) (fun ⟨i, r1⟩ => [(1, vw), (2, vp), (3, .func (.func kf) #[] caps.toArray), (14, va), (16, .int .i64 i), (15, .int .i64 arcs.length), (9, .int .i64 (bnd p (arcs.take i) (wl.take i)))]) (fun ⟨i, r1⟩ w' => (i ≤ arcs.length) ∧ (R (told p (arcs.take i) (wl.take i)) r1) ∧ Own r.fp w w' [r1]) (0, r) ⟨rfl, rfl, rfl, rfl, rfl, rfl, (congrArg (Value.int .i64) (by simp [bnd] : (0:Int) = bnd p (arcs.take 0) (wl.take 0))), trivial⟩ ⟨Nat.zero_le _, by simpa [told] using hr, (S2.take 1)⟩ ?_
  rintro ⟨i, r1⟩ ρ w1 ⟨hi, hR, S1⟩ IH
  refine r_seq ?_
  refine r_region ?_
  refine l_x rfl (x_lss rfl rfl) ?_
  refine l_nil ?_
  refine r_seq ?_
  refine r_ifd rfl (fun hc17 => ?_) (fun hc17 => ?_)
  · skip
    obtain ⟨a, ha⟩ : ∃ a, arcs[i]? = some a := ⟨_, List.getElem?_eq_getElem (by omega)⟩
    obtain ⟨y, hy⟩ : ∃ y, wl[i]? = some y := ⟨_, List.getElem?_eq_getElem (by omega)⟩
    have hok := hV.at ha
    have hyb := hw.at hy
    have hp1 := hp.at a.src.toNat
    have hp2 := hp.at a.dst.toNat
    have hrb := rst_bd hp hyb (a := a)
    have hpb := part_bd rfl hrb (by omega) (by omega)
    have hbb := bnd_bd_take hV hw hp i
    refine r_skip ?_
    refine r_seq ?_
    refine r_block ?_
    refine r_seq ?_
    refine r_region ?_
    refine l_x rfl (x_mv rfl) ?_
    refine l_index EA rfl (hA.le (S1.old h0 hX)) rfl rfl Try.runUnderlying22 Try.sizeOf39 (by omega) (by first | assumption | exact List.getElem?_eq_getElem (by omega)) ?_
    intro b5 o6 hat7 row8
    refine l_x rfl (x_load rfl (ld_row Try.isAgg39 Try.sizeOf39 rfl row8)) ?_
    refine l_alloc S1 rfl Try.zeroValue39 rfl ?_
    intro b12 w9 S10 hl11
    refine l_x rfl (x_as rfl) ?_
    refine l_stores S10 1 rfl rfl rfl rfl (EA.one _) Try.sizeOf39 (by first | exact Nat.le_refl _ | simp) (splice_all rfl) ?_
    intro w13 S14 hk15
    refine l_nil ?_
    refine r_seq ?_
    refine r_drawR 17 Try.mixed (by kernel_rfl) ?_
    refine w_x rfl (fun w1 h1 => x_mv rfl) ?_
    refine w_x rfl (fun w1 h1 => x_mv rfl) ?_
    refine w_index EI rfl (Hwl.le (S14.old h0 hX)) rfl rfl Try.runUnderlying25 Try.sizeOf3 (by omega) (by first | assumption | exact List.getElem?_eq_getElem (by omega)) ?_
    intro b16 o17 hat18 row19
    refine w_x rfl (fun w1 h1 => x_load rfl (ld_cell Try.isAgg3 ((row19.le h1) 0 _ rfl))) ?_
    refine w_x rfl (fun w1 h1 => x_mv rfl) ?_
    refine w_x rfl (fun w1 h1 => x_fieldAddr rfl Try.runUnderlying39 rfl Try.sizeOf3 (by decide)) ?_
    refine w_x rfl (fun w1 h1 => x_load rfl (ld_blk ((S14.step h1).blk 1 rfl) Try.isAgg3 rfl)) ?_
    refine w_index EI rfl (Hp.le (S14.old h0 hX)) rfl rfl Try.runUnderlying25 Try.sizeOf3 (by omega) (nth_get (by omega)) ?_
    intro b20 o21 hat22 row23
    refine w_x rfl (fun w1 h1 => x_load rfl (ld_cell Try.isAgg3 ((row23.le h1) 0 _ rfl))) ?_
    refine w_x rfl (fun w1 h1 => x_add rfl rfl (by omega)) ?_
    refine w_x rfl (fun w1 h1 => x_mv rfl) ?_
    refine w_x rfl (fun w1 h1 => x_fieldAddr rfl Try.runUnderlying39 rfl Try.sizeOf3 (by decide)) ?_
    refine w_x rfl (fun w1 h1 => x_load rfl (ld_blk ((S14.step h1).blk 1 rfl) Try.isAgg3 rfl)) ?_
    refine w_index EI rfl (Hp.le (S14.old h0 hX)) rfl rfl Try.runUnderlying25 Try.sizeOf3 (by omega) (nth_get (by omega)) ?_
    intro b24 o25 hat26 row27
    refine w_x rfl (fun w1 h1 => x_load rfl (ld_cell Try.isAgg3 ((row27.le h1) 0 _ rfl))) ?_
    refine w_x rfl (fun w1 h1 => x_sub rfl rfl (by omega)) ?_
    refine w_x rfl (fun w1 h1 => x_as rfl) ?_
    refine w_nil ?_
    intro w28 hl29
    have S30 := S14.step hl29
    refine l_nil ?_
    refine r_block ?_
    refine r_seq ?_
    refine r_slot 12 (.int .i64 (rst p a y)) rfl ?_
    refine r_region ?_
    refine l_x rfl (x_mv rfl) ?_
    refine l_x rfl (x_gtr rfl rfl) ?_
    refine l_x rfl (x_as rfl) ?_
    refine l_nil ?_
    refine r_ifd rfl (fun hc37 => ?_) (fun hc37 => ?_)
    · skip
      refine r_seq ?_
      refine r_region ?_
      refine l_x rfl (x_mv rfl) ?_
      refine l_x rfl (x_mv rfl) ?_
      refine l_x rfl (x_fieldAddr rfl Try.runUnderlying39 rfl Try.sizeOf3 (by decide)) ?_
      refine l_x rfl (x_load rfl (ld_blk (S30.blk 1 rfl) Try.isAgg3 rfl)) ?_
      refine l_x rfl (x_mul rfl rfl (by omega)) ?_
      refine l_x rfl (x_add rfl rfl (by omega)) ?_
      refine l_x rfl (x_as rfl) ?_
      refine l_nil ?_
      refine r_region ?_
      refine l_x rfl (x_mv rfl) ?_
      refine l_x rfl (x_load rfl (ld_blks (S30.blk 1 rfl) Try.isAgg39 Try.sizeOf39 rfl rfl)) ?_
      refine l_call [] caps ([_, _] ++ caps) rfl rfl he rfl (ht (told p (arcs.take i) (wl.take i)) r1 a true _ hR (List.mem_of_getElem? ha) (by have := told_len (p := p) (arcs.take i) (wl.take i); rw [List.length_take] at this; omega) (S30.lend 0 rfl)) ?_
      rintro _ w31 ⟨r34, hRr34, hback32⟩
      have S33 := S30.back 0 rfl hback32
      refine l_nil ?_
      refine r_inBlock ?_
      refine r_inBlock ?_
      refine r_region ?_
      refine l_x rfl (x_add rfl rfl (by omega)) ?_
      refine l_x rfl (x_mv rfl) ?_
      refine l_nil ?_
      exact IH (i + 1, r34) _ _ (by dsimp only; omega) ⟨rfl, rfl, rfl, rfl, rfl, rfl, (congrArg (Value.int .i64) (by rw [bnd_take ha hy, part_pos hc37])), trivial⟩ ⟨by omega, by rw [told_take ha hy, told1_pos hc37]; exact hRr34, (S33.take 1)⟩
    · skip
      refine r_seq ?_
      refine r_region ?_
      refine l_x rfl (x_mv rfl) ?_
      refine l_x rfl (x_lss rfl rfl) ?_
      refine l_x rfl (x_as rfl) ?_
      refine l_nil ?_
      refine r_ifd rfl (fun hc49 => ?_) (fun hc49 => ?_)
      · skip
        refine r_seq ?_
        refine r_region ?_
        refine l_x rfl (x_mv rfl) ?_
        refine l_x rfl (x_mv rfl) ?_
        refine l_x rfl (x_fieldAddr rfl Try.runUnderlying39 rfl Try.sizeOf3 (by decide)) ?_
        refine l_x rfl (x_load rfl (ld_blk (S30.blk 1 rfl) Try.isAgg3 rfl)) ?_
        refine l_x rfl (x_mul rfl rfl (by omega)) ?_
        refine l_x rfl (x_add rfl rfl (by omega)) ?_
        refine l_x rfl (x_as rfl) ?_
        refine l_nil ?_
        refine r_region ?_
        refine l_x rfl (x_mv rfl) ?_
        refine l_x rfl (x_load rfl (ld_blks (S30.blk 1 rfl) Try.isAgg39 Try.sizeOf39 rfl rfl)) ?_
        refine l_call [] caps ([_, _] ++ caps) rfl rfl he rfl (ht (told p (arcs.take i) (wl.take i)) r1 a false _ hR (List.mem_of_getElem? ha) (by have := told_len (p := p) (arcs.take i) (wl.take i); rw [List.length_take] at this; omega) (S30.lend 0 rfl)) ?_
        rintro _ w35 ⟨r38, hRr38, hback36⟩
        have S37 := S30.back 0 rfl hback36
        refine l_nil ?_
        refine r_inBlock ?_
        refine r_inBlock ?_
        refine r_region ?_
        refine l_x rfl (x_add rfl rfl (by omega)) ?_
        refine l_x rfl (x_mv rfl) ?_
        refine l_nil ?_
        exact IH (i + 1, r38) _ _ (by dsimp only; omega) ⟨rfl, rfl, rfl, rfl, rfl, rfl, (congrArg (Value.int .i64) (by rw [bnd_take ha hy, part_neg hc49])), trivial⟩ ⟨by omega, by rw [told_take ha hy, told1_neg hc49]; exact hRr38, (S37.take 1)⟩
      · skip
        refine r_skip ?_
        refine r_inBlock ?_
        refine r_inBlock ?_
        refine r_region ?_
        refine l_x rfl (x_add rfl rfl (by omega)) ?_
        refine l_x rfl (x_mv rfl) ?_
        refine l_nil ?_
        exact IH (i + 1, r1) _ _ (by dsimp only; omega) ⟨rfl, rfl, rfl, rfl, rfl, rfl, (congrArg (Value.int .i64) (by rw [bnd_take ha hy, part_zero hc37 hc49, Int.add_zero])), trivial⟩ ⟨by omega, by rw [told_take ha hy, told1_zero hc37 hc49, List.append_nil]; exact hR, (S30.take 1)⟩
  · skip
    have hi : i = arcs.length := by omega
    subst hi
    rw [List.take_length, List.take_of_length_le (by omega)] at hR
    refine r_exit rfl ?_
    refine r_seq ?_
    refine r_region ?_
    refine l_x rfl (x_mv rfl) ?_
    refine l_x rfl (x_as rfl) ?_
    refine l_nil ?_
    refine r_ret (rs := [.tmp 8]) [_] Try.func90 rfl ⟨rfl, trivial⟩ ?_
    exact ⟨congrArg (Value.int .i64) (by rw [List.take_length, List.take_of_length_le (by omega)]), _, hR, S1.take 1⟩

/-- The bound, with nothing told. -/
theorem c_bound0 (N : Int) (va : Value) (arcs : List Arc) (vw : Value) (wl : List Int) (vp : Value) (p : List Int) (kf : Nat) (hV : Valid N arcs) (hw : Wts arcs wl) (hp : Pts N p)
    (he : ∀ args w, (callFunc kf args).run Try.prog w = .ok (.enter kf args) w)
    (ht : ∀ a h w1, Cl Try.prog kf #[Value.agg (Arc.enc a).toArray, Value.bool h] w1 fun _ w2 => Le w1 w2) (w : World) (hA : Rd EA w va arcs) (Hwl : Rd EI w vw wl) (Hp : Rd EI w vp p) :
    Cl Try.prog 90 #[.agg #[.int .i64 N, va], vw, vp, .func (.func kf) #[] #[]] w fun v w' => v = .int .i64 (bnd p arcs wl) ∧ Le w w' :=
  (c_bound N va arcs vw wl vp p kf [] (fun _ r => r = nilR) w hV hw hp he
    (fun _ r a h w1 hr _ _ hS => by subst hr; exact (ht a h w1).mono fun _ _ hl => ⟨_, rfl, hS.step hl⟩) hA Hwl Hp nilR rfl w (Own.nilR w) (Le.refl w) fun _ h => h.elim).mono
    fun _ _ ⟨h1, _, hr, h2⟩ => ⟨h1, by subst hr; exact h2.keep⟩

/-- couchant/flow.Bound$2. -/
theorem c_Bound2 (a : Arc) (h : Bool) (w : World) :
    Cl Try.prog 91 #[Value.agg (Arc.enc a).toArray, Value.bool h] w fun _ w' => Le w w' := by
  refine fn_of_run (args := [_, _]) 4 Try.func91 rfl rfl rfl fun cs => ?_
  have S := Own.start (X := nob) w
  refine r_region ?_
  refine l_box S rfl rfl ?_
  intro b4 w1 S2 hl3
  refine l_nil ?_
  refine r_end (rs := []) [] Try.func91 rfl trivial ?_
  exact S2.le

/-- couchant/flow.Bound$1. -/
theorem c_Bound1 (N : Int) (va : Value) (arcs : List Arc) (vw : Value) (wl : List Int) (vp : Value) (p : List Int) (b0 b1 b2 : Nat) (hmwl : wl.length ≤ 9223372036854775807) (hmp : p.length ≤ 9223372036854775807) (w : World) (h0 : Blk w b0 [.int .i64 N, va] 24) (h1 : Blk w b1 [vw] 25) (h2 : Blk w b2 [vp] 25)  (hA : Rd EA w va arcs) (Hwl : Rd EI w vw wl) (Hp : Rd EI w vp p) :
    Cl Try.prog 88 #[.pointer (some ⟨b0, 0, none⟩), .pointer (some ⟨b1, 0, none⟩), .pointer (some ⟨b2, 0, none⟩)] w fun v w' => v = .bool (row wl arcs.length (-1000) 1000 && row p N (-10000000) 10000000) ∧ Le w w' := by
  refine fn_of_run (args := [_, _, _]) 12 Try.func88 rfl rfl rfl fun cs => ?_
  have S := Own.start (X := nob) w
  refine r_seq ?_
  refine r_region ?_
  refine l_x rfl (x_as rfl) ?_
  refine l_nil ?_
  refine r_seq ?_
  refine r_region ?_
  refine l_x rfl (x_load rfl (ld_blks (h0.keep S.le id) Try.isAgg24 Try.sizeOf24 rfl rfl)) ?_
  refine l_x rfl (x_load rfl (ld_blk (h1.keep S.le id) Try.isAgg25 rfl)) ?_
  refine l_call [] [] [_, _] rfl rfl Try.call70 rfl (c_weights N _ arcs _ _ (by omega) _ (hA.le S.le) (Hwl.le S.le)) ?_
  rintro _ w1 ⟨rfl, hl3⟩
  have S2 := S.step hl3
  refine l_x rfl (x_mv rfl) ?_
  refine l_split (d := 7) rfl (fun hg7 => ?_) (fun hg7 => ?_)
  · skip
    refine l_x rfl (x_load rfl (ld_blks (h0.keep S2.le id) Try.isAgg24 Try.sizeOf24 rfl rfl)) ?_
    refine l_x rfl (x_load rfl (ld_blk (h2.keep S2.le id) Try.isAgg25 rfl)) ?_
    refine l_call [] [] [_, _] rfl rfl Try.call89 rfl (c_potentials N _ _ _ (by omega) _ (Hp.le S2.le)) ?_
    rintro _ w4 ⟨rfl, hl6⟩
    have S5 := S2.step hl6
    refine l_x rfl (x_pick_t rfl rfl) ?_
    refine l_x rfl (x_as rfl) ?_
    refine l_nil ?_
    refine r_ret (rs := [.tmp 3]) [_] Try.func88 rfl ⟨rfl, trivial⟩ ?_
    exact ⟨congrArg Value.bool (by simp [*]), S5.le⟩
  · skip
    refine l_pass rfl ?_
    refine l_pass rfl ?_
    refine l_pass rfl ?_
    refine l_x rfl (x_pick_f rfl rfl) ?_
    refine l_x rfl (x_as rfl) ?_
    refine l_nil ?_
    refine r_ret (rs := [.tmp 3]) [_] Try.func88 rfl ⟨rfl, trivial⟩ ?_
    exact ⟨congrArg Value.bool (by simp [*]), S2.le⟩

/-- couchant/flow.Bound. -/
theorem c_Bound (N : Int) (va : Value) (arcs : List Arc) (vw : Value) (wl : List Int) (vp : Value) (p : List Int) (hmwl : wl.length ≤ 9223372036854775807) (hmp : p.length ≤ 9223372036854775807) (w : World) (hA : Rd EA w va arcs) (Hwl : Rd EI w vw wl) (Hp : Rd EI w vp p) :
    Cl Try.prog 34 #[.agg #[.int .i64 N, va], vw, vp] w fun v w' => v = .tuple #[.int .i64 (if askd N arcs (row wl arcs.length (-1000) 1000 && row p N (-10000000) 10000000) = 0 then bnd p arcs wl else 0), .int .i64 (askd N arcs (row wl arcs.length (-1000) 1000 && row p N (-10000000) 10000000))] ∧ Le w w' := by
  refine fn_of_run (args := [_, _, _]) 19 Try.func34 rfl rfl rfl fun cs => ?_
  have S := Own.start (X := nob) w
  refine r_seq ?_
  refine r_region ?_
  refine l_box S rfl rfl ?_
  intro b4 w1 S2 hl3
  refine l_box S2 rfl (Rd.cells (Hwl.le S2.le)) ?_
  intro b8 w5 S6 hl7
  refine l_box S6 rfl (Rd.cells (Hp.le S6.le)) ?_
  intro b12 w9 S10 hl11
  refine l_x rfl (x_as rfl) ?_
  refine l_x rfl (x_as rfl) ?_
  refine l_nil ?_
  refine r_seq ?_
  refine r_seq ?_
  refine r_region ?_
  refine l_x rfl (x_load rfl (ld_blks (S10.blk 0 rfl) Try.isAgg24 Try.sizeOf24 rfl rfl)) ?_
  refine l_x rfl (x_func rfl rfl) ?_
  refine l_call [] [] [_, _] rfl rfl Try.call62 rfl (c_asked N va arcs (row wl arcs.length (-1000) 1000 && row p N (-10000000) 10000000) 88 [_, _, _] _ (hA.le S10.le) Try.call88 (fun _ w1 h1 => c_Bound1 N va arcs vw wl vp p _ _ _ (by omega) (by omega) w1 ((S10.blk 0 rfl).keep h1 id) ((S10.blk 1 rfl).keep h1 id) ((S10.blk 2 rfl).keep h1 id) (hA.le (S10.le.trans h1)) (Hwl.le (S10.le.trans h1)) (Hp.le (S10.le.trans h1)))) ?_
  rintro _ w13 ⟨rfl, hl15⟩
  have S14 := S10.step hl15
  refine l_x rfl (x_as rfl) ?_
  refine l_nil ?_
  refine r_seq ?_
  refine r_region ?_
  refine l_x rfl (x_mv rfl) ?_
  refine l_x rfl (x_neq rfl rfl) ?_
  refine l_nil ?_
  refine r_ifd rfl (fun hc13 => ?_) (fun hc13 => ?_)
  · skip
    refine r_seq ?_
    refine r_region ?_
    refine l_x rfl (x_mv rfl) ?_
    refine l_x rfl (x_as rfl) ?_
    refine l_x rfl (x_as rfl) ?_
    refine l_nil ?_
    refine r_ret (rs := [.tmp 6, .tmp 7]) [_, _] Try.func34 rfl ⟨rfl, rfl, trivial⟩ ?_
    exact ⟨by show Value.tuple #[.int .i64 0, .int .i64 _] = _; simp [hc13], S14.le⟩
  · skip
    have h0 := Decidable.not_not.1 hc13
    obtain ⟨hV, hq⟩ := askd_zero.1 h0
    rw [Bool.and_eq_true] at hq
    have hw := row_wts.1 hq.1
    have hp := row_pts.1 hq.2
    refine r_skip ?_
    refine r_seq ?_
    refine r_region ?_
    refine l_x rfl (x_load rfl (ld_blks (S14.blk 0 rfl) Try.isAgg24 Try.sizeOf24 rfl rfl)) ?_
    refine l_x rfl (x_load rfl (ld_blk (S14.blk 1 rfl) Try.isAgg25 rfl)) ?_
    refine l_x rfl (x_load rfl (ld_blk (S14.blk 2 rfl) Try.isAgg25 rfl)) ?_
    refine l_call [] [] [_, _, _, _] rfl rfl Try.call90 rfl (c_bound0 N va arcs _ _ _ _ 91 hV hw hp Try.call91 c_Bound2 _ (hA.le S14.le) (Hwl.le S14.le) (Hp.le S14.le)) ?_
    rintro _ w16 ⟨rfl, hl18⟩
    have S17 := S14.step hl18
    refine l_x rfl (x_as rfl) ?_
    refine l_x rfl (x_as rfl) ?_
    refine l_nil ?_
    refine r_ret (rs := [.tmp 6, .tmp 7]) [_, _] Try.func34 rfl ⟨rfl, rfl, trivial⟩ ?_
    exact ⟨by show Value.tuple #[.int .i64 _, .int .i64 0] = _; simp [h0], S17.le⟩

/-- couchant/flow.CheckBest$2. -/
theorem c_CheckBest2 (a : Arc) (h : Bool) (w : World) :
    Cl Try.prog 97 #[Value.agg (Arc.enc a).toArray, Value.bool h] w fun _ w' => Le w w' := by
  refine fn_of_run (args := [_, _]) 4 Try.func97 rfl rfl rfl fun cs => ?_
  have S := Own.start (X := nob) w
  refine r_region ?_
  refine l_box S rfl rfl ?_
  intro b4 w1 S2 hl3
  refine l_nil ?_
  refine r_end (rs := []) [] Try.func97 rfl trivial ?_
  exact S2.le

/-- couchant/flow.CheckBest$1. -/
theorem c_CheckBest1 (N : Int) (va : Value) (arcs : List Arc) (vw : Value) (wl : List Int) (vx : Value) (x : List Int) (vp : Value) (p : List Int) (b0 b1 b2 b3 : Nat) (hmwl : wl.length ≤ 9223372036854775807) (hmx : x.length ≤ 9223372036854775807) (hmp : p.length ≤ 9223372036854775807) (w : World) (h0 : Blk w b0 [.int .i64 N, va] 24) (h1 : Blk w b1 [vw] 25) (h2 : Blk w b2 [vx] 25) (h3 : Blk w b3 [vp] 25)  (hA : Rd EA w va arcs) (Hwl : Rd EI w vw wl) (Hx : Rd EI w vx x) (Hp : Rd EI w vp p) :
    Cl Try.prog 96 #[.pointer (some ⟨b0, 0, none⟩), .pointer (some ⟨b1, 0, none⟩), .pointer (some ⟨b2, 0, none⟩), .pointer (some ⟨b3, 0, none⟩)] w fun v w' => v = .bool (row wl arcs.length (-1000) 1000 && row x arcs.length 0 1000000 && row p N (-10000000) 10000000) ∧ Le w w' := by
  refine fn_of_run (args := [_, _, _, _]) 18 Try.func96 rfl rfl rfl fun cs => ?_
  have S := Own.start (X := nob) w
  refine r_seq ?_
  refine r_region ?_
  refine l_x rfl (x_as rfl) ?_
  refine l_nil ?_
  refine r_seq ?_
  refine r_region ?_
  refine l_x rfl (x_load rfl (ld_blks (h0.keep S.le id) Try.isAgg24 Try.sizeOf24 rfl rfl)) ?_
  refine l_x rfl (x_load rfl (ld_blk (h1.keep S.le id) Try.isAgg25 rfl)) ?_
  refine l_call [] [] [_, _] rfl rfl Try.call70 rfl (c_weights N _ arcs _ _ (by omega) _ (hA.le S.le) (Hwl.le S.le)) ?_
  rintro _ w1 ⟨rfl, hl3⟩
  have S2 := S.step hl3
  refine l_x rfl (x_mv rfl) ?_
  refine l_split (d := 8) rfl (fun hg8 => ?_) (fun hg8 => ?_)
  · skip
    refine l_x rfl (x_load rfl (ld_blks (h0.keep S2.le id) Try.isAgg24 Try.sizeOf24 rfl rfl)) ?_
    refine l_x rfl (x_load rfl (ld_blk (h2.keep S2.le id) Try.isAgg25 rfl)) ?_
    refine l_call [] [] [_, _] rfl rfl Try.call67 rfl (c_amounts N _ arcs _ _ (by omega) _ (hA.le S2.le) (Hx.le S2.le)) ?_
    rintro _ w4 ⟨rfl, hl6⟩
    have S5 := S2.step hl6
    refine l_x rfl (x_pick_t rfl rfl) ?_
    refine l_x rfl (x_mv rfl) ?_
    refine l_split (d := 13) rfl (fun hg13 => ?_) (fun hg13 => ?_)
    · skip
      refine l_x rfl (x_load rfl (ld_blks (h0.keep S5.le id) Try.isAgg24 Try.sizeOf24 rfl rfl)) ?_
      refine l_x rfl (x_load rfl (ld_blk (h3.keep S5.le id) Try.isAgg25 rfl)) ?_
      refine l_call [] [] [_, _] rfl rfl Try.call89 rfl (c_potentials N _ _ _ (by omega) _ (Hp.le S5.le)) ?_
      rintro _ w7 ⟨rfl, hl9⟩
      have S8 := S5.step hl9
      refine l_x rfl (x_pick_t rfl rfl) ?_
      refine l_x rfl (x_as rfl) ?_
      refine l_nil ?_
      refine r_ret (rs := [.tmp 4]) [_] Try.func96 rfl ⟨rfl, trivial⟩ ?_
      exact ⟨congrArg Value.bool (by simp [*]), S8.le⟩
    · skip
      refine l_pass rfl ?_
      refine l_pass rfl ?_
      refine l_pass rfl ?_
      refine l_x rfl (x_pick_f rfl rfl) ?_
      refine l_x rfl (x_as rfl) ?_
      refine l_nil ?_
      refine r_ret (rs := [.tmp 4]) [_] Try.func96 rfl ⟨rfl, trivial⟩ ?_
      exact ⟨congrArg Value.bool (by simp [*]), S5.le⟩
  · skip
    refine l_pass rfl ?_
    refine l_pass rfl ?_
    refine l_pass rfl ?_
    refine l_x rfl (x_pick_f rfl rfl) ?_
    refine l_x rfl (x_mv rfl) ?_
    refine l_pass rfl ?_
    refine l_pass rfl ?_
    refine l_pass rfl ?_
    refine l_x rfl (x_pick_f rfl rfl) ?_
    refine l_x rfl (x_as rfl) ?_
    refine l_nil ?_
    refine r_ret (rs := [.tmp 4]) [_] Try.func96 rfl ⟨rfl, trivial⟩ ?_
    exact ⟨congrArg Value.bool (by simp [*]), S2.le⟩

/-- couchant/flow.CheckBest. -/
theorem c_CheckBest (N : Int) (va : Value) (arcs : List Arc) (vw : Value) (wl : List Int) (vx : Value) (x : List Int) (vp : Value) (p : List Int) (hmwl : wl.length ≤ 9223372036854775807) (hmx : x.length ≤ 9223372036854775807) (hmp : p.length ≤ 9223372036854775807) (w : World) (hA : Rd EA w va arcs) (Hwl : Rd EI w vw wl) (Hx : Rd EI w vx x) (Hp : Rd EI w vp p) :
    Cl Try.prog 38 #[.agg #[.int .i64 N, va], vw, vx, vp] w fun v w' => v = .tuple #[.bool (decide (askd N arcs (row wl arcs.length (-1000) 1000 && row x arcs.length 0 1000000 && row p N (-10000000) 10000000) = 0) && (Flow.kept 1000 arcs x && decide (dot wl x = bnd p arcs wl))), .int .i64 (askd N arcs (row wl arcs.length (-1000) 1000 && row x arcs.length 0 1000000 && row p N (-10000000) 10000000))] ∧ Le w w' := by
  refine fn_of_run (args := [_, _, _, _]) 30 Try.func38 rfl rfl rfl fun cs => ?_
  have S := Own.start (X := nob) w
  refine r_seq ?_
  refine r_region ?_
  refine l_box S rfl rfl ?_
  intro b4 w1 S2 hl3
  refine l_box S2 rfl (Rd.cells (Hwl.le S2.le)) ?_
  intro b8 w5 S6 hl7
  refine l_box S6 rfl (Rd.cells (Hx.le S6.le)) ?_
  intro b12 w9 S10 hl11
  refine l_box S10 rfl (Rd.cells (Hp.le S10.le)) ?_
  intro b16 w13 S14 hl15
  refine l_x rfl (x_as rfl) ?_
  refine l_x rfl (x_as rfl) ?_
  refine l_nil ?_
  refine r_seq ?_
  refine r_seq ?_
  refine r_region ?_
  refine l_x rfl (x_load rfl (ld_blks (S14.blk 0 rfl) Try.isAgg24 Try.sizeOf24 rfl rfl)) ?_
  refine l_x rfl (x_func rfl rfl) ?_
  refine l_call [] [] [_, _] rfl rfl Try.call62 rfl (c_asked N va arcs (row wl arcs.length (-1000) 1000 && row x arcs.length 0 1000000 && row p N (-10000000) 10000000) 96 [_, _, _, _] _ (hA.le S14.le) Try.call96 (fun _ w1 h1 => c_CheckBest1 N va arcs vw wl vx x vp p _ _ _ _ (by omega) (by omega) (by omega) w1 ((S14.blk 0 rfl).keep h1 id) ((S14.blk 1 rfl).keep h1 id) ((S14.blk 2 rfl).keep h1 id) ((S14.blk 3 rfl).keep h1 id) (hA.le (S14.le.trans h1)) (Hwl.le (S14.le.trans h1)) (Hx.le (S14.le.trans h1)) (Hp.le (S14.le.trans h1)))) ?_
  rintro _ w17 ⟨rfl, hl19⟩
  have S18 := S14.step hl19
  refine l_x rfl (x_as rfl) ?_
  refine l_nil ?_
  refine r_seq ?_
  refine r_region ?_
  refine l_x rfl (x_mv rfl) ?_
  refine l_x rfl (x_neq rfl rfl) ?_
  refine l_nil ?_
  refine r_ifd rfl (fun hc15 => ?_) (fun hc15 => ?_)
  · skip
    refine r_seq ?_
    refine r_region ?_
    refine l_x rfl (x_mv rfl) ?_
    refine l_x rfl (x_as rfl) ?_
    refine l_x rfl (x_as rfl) ?_
    refine l_nil ?_
    refine r_ret (rs := [.tmp 8, .tmp 9]) [_, _] Try.func38 rfl ⟨rfl, rfl, trivial⟩ ?_
    exact ⟨by show Value.tuple #[.bool false, .int .i64 _] = _; simp [hc15], S18.le⟩
  · skip
    have h0 := Decidable.not_not.1 hc15
    obtain ⟨hV, hq⟩ := askd_zero.1 h0
    rw [Bool.and_eq_true, Bool.and_eq_true] at hq
    have hw := row_wts.1 hq.1.1
    have hx := row_amts.1 hq.1.2
    have hp := row_pts.1 hq.2
    refine r_skip ?_
    refine r_seq ?_
    refine r_drawR 15 Try.mixed (by kernel_rfl) ?_
    refine w_x rfl (fun w1 h1 => x_load rfl (ld_blks ((S18.step h1).blk 0 rfl) Try.isAgg24 Try.sizeOf24 rfl rfl)) ?_
    refine w_x rfl (fun w1 h1 => x_load rfl (ld_blk ((S18.step h1).blk 2 rfl) Try.isAgg25 rfl)) ?_
    refine wd_call [] [] [_, _] rfl rfl Try.call68 rfl (fun w1 h1 => c_kept N va arcs _ _ hV hx _ (hA.le (S18.step h1).le) (Hx.le (S18.step h1).le)) ?_
    refine w_x rfl (fun w1 h1 => x_mv rfl) ?_
    refine w_split (d := 20) rfl (fun hg20 => ?_) (fun hg20 => ?_)
    · skip
      refine w_x rfl (fun w1 h1 => x_load rfl (ld_blk ((S18.step h1).blk 1 rfl) Try.isAgg25 rfl)) ?_
      refine w_x rfl (fun w1 h1 => x_load rfl (ld_blk ((S18.step h1).blk 2 rfl) Try.isAgg25 rfl)) ?_
      refine wd_call [] [] [_, _] rfl rfl Try.call72 rfl (fun w1 h1 => c_sum arcs N _ _ _ _ hV hw hx _ (Hwl.le (S18.step h1).le) (Hx.le (S18.step h1).le)) ?_
      refine w_x rfl (fun w1 h1 => x_load rfl (ld_blks ((S18.step h1).blk 0 rfl) Try.isAgg24 Try.sizeOf24 rfl rfl)) ?_
      refine w_x rfl (fun w1 h1 => x_load rfl (ld_blk ((S18.step h1).blk 1 rfl) Try.isAgg25 rfl)) ?_
      refine w_x rfl (fun w1 h1 => x_load rfl (ld_blk ((S18.step h1).blk 3 rfl) Try.isAgg25 rfl)) ?_
      refine wd_call [] [] [_, _, _, _] rfl rfl Try.call90 rfl (fun w1 h1 => c_bound0 N va arcs _ _ _ _ 97 hV hw hp Try.call97 c_CheckBest2 _ (hA.le (S18.step h1).le) (Hwl.le (S18.step h1).le) (Hp.le (S18.step h1).le)) ?_
      refine w_x rfl (fun w1 h1 => x_eql rfl rfl) ?_
      refine w_x rfl (fun w1 h1 => x_pick_t rfl rfl) ?_
      refine w_x rfl (fun w1 h1 => x_as rfl) ?_
      refine w_x rfl (fun w1 h1 => x_as rfl) ?_
      refine w_nil ?_
      intro w20 hl21
      have S22 := S18.step hl21
      refine l_nil ?_
      refine r_ret (rs := [.tmp 8, .tmp 9]) [_, _] Try.func38 rfl ⟨rfl, rfl, trivial⟩ ?_
      exact ⟨by show Value.tuple #[.bool _, .int .i64 0] = _; simp [h0, hg20], S22.le⟩
    · skip
      refine w_pass rfl ?_
      refine w_pass rfl ?_
      refine w_pass rfl ?_
      refine w_pass rfl ?_
      refine w_pass rfl ?_
      refine w_pass rfl ?_
      refine w_pass rfl ?_
      refine w_pass rfl ?_
      refine w_x rfl (fun w1 h1 => x_pick_f rfl rfl) ?_
      refine w_x rfl (fun w1 h1 => x_as rfl) ?_
      refine w_x rfl (fun w1 h1 => x_as rfl) ?_
      refine w_nil ?_
      intro w23 hl24
      have S25 := S18.step hl24
      refine l_nil ?_
      refine r_ret (rs := [.tmp 8, .tmp 9]) [_, _] Try.func38 rfl ⟨rfl, rfl, trivial⟩ ?_
      exact ⟨by show Value.tuple #[.bool _, .int .i64 0] = _; simp [h0, hg20], S25.le⟩

/-- couchant/flow.opposite. -/
theorem c_opposite (vw : Value) (wl : List Int) (hm : wl.length ≤ 4000) (hb : ∀ y ∈ wl, -1000 ≤ y ∧ y ≤ 1000) (w : World) (Hwl : Rd EI w vw wl) :
    Cl Try.prog 101 #[vw] w fun v w' => New w w' (vec EI v (wl.map (- ·))) ∧ Le w w' := by
  refine fn_of_run (args := [_]) 23 Try.func101 rfl rfl rfl fun cs => ?_
  have S := Own.start (X := nob) w
  refine r_seq ?_
  refine r_region ?_
  refine l_x rfl (x_as rfl) ?_
  refine l_nil ?_
  refine r_seq ?_
  refine r_region ?_
  refine l_x rfl (x_mv rfl) ?_
  refine l_x rfl (x_len (Hwl.le S.le) rfl Try.runUnderlying25) ?_
  refine l_make EI 0 S rfl Try.runUnderlying25 Try.sizeOf3 Try.typeInfo3 Try.zeroValue3 rfl rfl rfl rfl (Nat.le_refl _) (by unfold maxLen; omega) (by show _ * 8 ≤ _; omega) ?_
  intro v4 w1 hv5 S2 hl3
  refine l_x rfl (x_as rfl) ?_
  refine l_nil ?_
  refine r_seq ?_
  refine r_seq ?_
  refine r_region ?_
  refine l_x rfl (x_mv rfl) ?_
  refine l_x rfl (x_len (Hwl.le S2.le) rfl Try.runUnderlying25) ?_
  refine l_x rfl (x_mv rfl) ?_
  refine l_nil ?_
  refine r_block ?_
  refine r_loop (G := Nat) (fun i => wl.length - i) (fun i => [(9, vw), (11, .int .i64 i), (10, .int .i64 wl.length), (3, v4)]) (fun i w' => (i ≤ wl.length) ∧ Own nob w w' [vec EI v4 (pre (wl.map (- ·)) 0 i)]) 0 ⟨rfl, rfl, rfl, rfl, trivial⟩ ⟨Nat.zero_le _, (by rw [pre_zero, List.length_map]; exact S2)⟩ ?_
  rintro i ρ w1 ⟨hi, S1⟩ IH
  refine r_seq ?_
  refine r_region ?_
  refine l_x rfl (x_lss rfl rfl) ?_
  refine l_nil ?_
  refine r_seq ?_
  refine r_ifd rfl (fun hc12 => ?_) (fun hc12 => ?_)
  · skip
    obtain ⟨a, ha⟩ : ∃ a, wl[i]? = some a := ⟨_, List.getElem?_eq_getElem (by omega)⟩
    have hab := hb a (List.mem_of_getElem? ha)
    refine r_skip ?_
    refine r_seq ?_
    refine r_block ?_
    refine r_seq ?_
    refine r_region ?_
    refine l_x rfl (x_mv rfl) ?_
    refine l_index EI rfl (Hwl.le S1.le) rfl rfl Try.runUnderlying25 Try.sizeOf3 (by omega) (by first | assumption | exact List.getElem?_eq_getElem (by omega)) ?_
    intro b6 o7 hat8 row9
    refine l_x rfl (x_load rfl (ld_cell Try.isAgg3 (row9 0 _ rfl))) ?_
    refine l_x rfl (x_as rfl) ?_
    refine l_x rfl (x_as rfl) ?_
    refine l_nil ?_
    refine r_region ?_
    refine l_x rfl (x_mv rfl) ?_
    refine l_x rfl (x_mv rfl) ?_
    refine l_x rfl (x_mv rfl) ?_
    refine l_x rfl (x_neg rfl (by omega)) ?_
    refine l_index EI rfl (vec_rd (S1.at 0 rfl)) rfl rfl Try.runUnderlying25 Try.sizeOf3 (by omega) (pre_get (by rw [List.length_map]; omega)) ?_
    intro b10 o11 hat12 row13
    refine l_storevi (f := 0) S1 0 rfl rfl hat12 rfl rfl Try.sizeOf3 (pre_get (by rw [List.length_map]; omega)) (by decide) rfl ?_
    intro w14 S15 hk16
    refine l_nil ?_
    refine r_inBlock ?_
    refine r_region ?_
    refine l_x rfl (x_add rfl rfl (by omega)) ?_
    refine l_x rfl (x_mv rfl) ?_
    refine l_nil ?_
    exact IH (i + 1) _ _ (by omega) ⟨rfl, rfl, rfl, rfl, trivial⟩ ⟨by omega, (by rw [← pre_step (a := -a) (by rw [List.getElem?_map, ha]; rfl)]; exact S15)⟩
  · skip
    have hi : i = wl.length := by omega
    subst hi
    refine r_exit rfl ?_
    refine r_seq ?_
    refine r_region ?_
    refine l_x rfl (x_mv rfl) ?_
    refine l_x rfl (x_as rfl) ?_
    refine l_nil ?_
    refine r_ret (rs := [.tmp 2]) [_] Try.func101 rfl ⟨rfl, trivial⟩ ?_
    exact ⟨(by rw [← pre_full (l := wl.map (- ·)) (z := 0), List.length_map]; exact S1.new 0 rfl), S1.le⟩

end Go.Proofs
