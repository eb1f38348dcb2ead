/- Texts joined for a claim: Facts, F1, F2, F3, F4, F5, F6. -/
import Derived.Test.YtddapgjjndbejaaProg
import Derived.Test.YtddapgjjndbejaaKc
import Derived.Test.YtddapgjjndbejaaKb
import Derived.Test.YtddapgjjndbejaaShelf
/-
  Facts of the program and of its types.
-/
namespace Go.Proofs
open Go Go.Vk Go.Vk.Flow

theorem Try.mixed : Try.prog.follows .mixedOrders = true := by kernel_rfl
abbrev EI := intE 3
abbrev EB := boolE 4
abbrev EA := arcE 39
abbrev ES := stpE 126
abbrev EH := hdE 135
theorem zcT : Try.zeroCells89 = (tab 1000 fun _ => 0).toArray := by kernel_rfl
theorem info3 : Try.prog.info? 3 = some Try.t3 := by kernel_rfl
theorem info4 : Try.prog.info? 4 = some Try.t4 := by kernel_rfl
theorem info39 : Try.prog.info? 39 = some Try.t39 := by kernel_rfl
theorem info126 : Try.prog.info? 126 = some Try.t126 := by kernel_rfl
theorem info135 : Try.prog.info? 135 = some Try.t135 := by kernel_rfl
theorem size3 : (Try.prog.info? 3).map (·.size) = some 1 := by rw [info3]; rfl
theorem size4 : (Try.prog.info? 4).map (·.size) = some 1 := by rw [info4]; rfl
theorem size39 : (Try.prog.info? 39).map (·.size) = some 6 := by rw [info39]; rfl
theorem size126 : (Try.prog.info? 126).map (·.size) = some 5 := by rw [info126]; rfl
theorem size135 : (Try.prog.info? 135).map (·.size) = some 1 := by rw [info135]; rfl
theorem cellsI : Try.prog.cellsOf 3 = 1 := by kernel_rfl
theorem decF {p : Prop} [Decidable p] (h : ¬ p) : false = decide p := (decide_eq_false h).symm
theorem decT {p : Prop} [Decidable p] (h : p) : true = decide p := (decide_eq_true h).symm
theorem decE {p q : Prop} [Decidable p] [Decidable q] (h : p ↔ q) : decide p = decide q := decide_eq_decide.2 h

end Go.Proofs

/-
  Contracts of functions of the program: each by symbolic execution of its text.
-/
namespace Go.Proofs
open Go Go.Vk Go.Vk.Flow

/-- couchant/flow.in. -/
theorem c_in (a l m : Int) (w : World) :
    Cl Try.prog 64 #[.int .i64 a, .int .i64 l, .int .i64 m] w fun v w' => v = .bool (decide (l ≤ a ∧ a ≤ m)) ∧ Le w w' := by
  refine fn_of_run (args := [_, _, _]) 15 Try.func64 rfl rfl rfl fun cs => ?_
  have S := Own.start (X := nob) w
  refine r_seq ?_
  refine r_region ?_
  refine l_x rfl (x_as rfl) ?_
  refine l_nil ?_
  refine r_seq ?_
  refine r_region ?_
  refine l_x rfl (x_mv rfl) ?_
  refine l_x rfl (x_mv rfl) ?_
  refine l_x rfl (x_geq rfl rfl) ?_
  refine l_x rfl (x_mv rfl) ?_
  refine l_splitd (d := 10) rfl (fun hg10 => ?_) (fun hg10 => ?_)
  · skip
    refine l_x rfl (x_mv rfl) ?_
    refine l_x rfl (x_mv rfl) ?_
    refine l_x rfl (x_leq rfl rfl) ?_
    refine l_x rfl (x_pick_t rfl rfl) ?_
    refine l_x rfl (x_as rfl) ?_
    refine l_nil ?_
    refine r_ret (rs := [.tmp 6]) [_] Try.func64 rfl ⟨rfl, trivial⟩ ?_
    exact ⟨congrArg Value.bool (by first | (apply decE; omega) | (apply decF; omega)), S.le⟩
  · skip
    refine l_pass rfl ?_
    refine l_pass rfl ?_
    refine l_pass rfl ?_
    refine l_x rfl (x_pick_f rfl rfl) ?_
    refine l_x rfl (x_as rfl) ?_
    refine l_nil ?_
    refine r_ret (rs := [.tmp 6]) [_] Try.func64 rfl ⟨rfl, trivial⟩ ?_
    exact ⟨congrArg Value.bool (by first | (apply decE; omega) | (apply decF; omega)), S.le⟩

/-- couchant/flow.Check$1. -/
theorem c_Check1 (N : Int) (a : Arc) (va : Value) (bg : Nat) (hN : 1 ≤ N ∧ N ≤ 1000) (w : World) (hG : Blk w bg [.int .i64 N, va] 24) :
    Cl Try.prog 95 #[.agg a.enc.toArray, .pointer (some ⟨bg, 0, none⟩)] w fun v w' => v = .bool (!okArc N a) ∧ Le w w' := by
  refine fn_of_run (args := [_, _]) 45 Try.func95 rfl rfl rfl fun cs => ?_
  have S := Own.start (X := nob) w
  refine r_seq ?_
  refine r_region ?_
  refine l_box S rfl rfl ?_
  intro b4 w1 S2 hl3
  refine l_x rfl (x_as rfl) ?_
  refine l_nil ?_
  refine r_seq ?_
  refine r_region ?_
  refine l_x rfl (x_fieldAddr rfl Try.runUnderlying39 rfl Try.sizeOf3 (by decide)) ?_
  refine l_x rfl (x_load rfl (ld_blk (S2.blk 0 rfl) Try.isAgg3 rfl)) ?_
  refine l_x rfl (x_fieldAddr rfl Try.runUnderlying24 rfl Try.sizeOf3 (by decide)) ?_
  refine l_x rfl (x_load rfl (ld_blk (hG.keep S2.le id) Try.isAgg3 rfl)) ?_
  refine l_x rfl (x_sub rfl rfl (by omega)) ?_
  refine l_call [] [] [_, _, _] rfl rfl Try.call64 rfl (c_in _ _ _ _) ?_
  rintro _ w5 ⟨rfl, hl7⟩
  have S6 := S2.step hl7
  refine l_x rfl (x_mv rfl) ?_
  refine l_splitd (d := 11) rfl (fun hg11 => ?_) (fun hg11 => ?_)
  · skip
    refine l_x rfl (x_fieldAddr rfl Try.runUnderlying39 rfl Try.sizeOf3 (by decide)) ?_
    refine l_x rfl (x_load rfl (ld_blk (S6.blk 0 rfl) Try.isAgg3 rfl)) ?_
    refine l_x rfl (x_fieldAddr rfl Try.runUnderlying24 rfl Try.sizeOf3 (by decide)) ?_
    refine l_x rfl (x_load rfl (ld_blk (hG.keep S6.le id) Try.isAgg3 rfl)) ?_
    refine l_x rfl (x_sub rfl rfl (by omega)) ?_
    refine l_call [] [] [_, _, _] rfl rfl Try.call64 rfl (c_in _ _ _ _) ?_
    rintro _ w8 ⟨rfl, hl10⟩
    have S9 := S6.step hl10
    refine l_x rfl (x_pick_t rfl rfl) ?_
    refine l_x rfl (x_as rfl) ?_
    refine l_nil ?_
    refine r_seq ?_
    refine r_region ?_
    refine l_x rfl (x_mv rfl) ?_
    refine l_x rfl (x_notd rfl) ?_
    refine l_x rfl (x_mv rfl) ?_
    refine l_splitd (d := 21) rfl (fun hg21 => ?_) (fun hg21 => ?_)
    · skip
      refine l_pass rfl ?_
      refine l_pass rfl ?_
      refine l_pass rfl ?_
      refine l_pass rfl ?_
      refine l_x rfl (x_pick_t rfl rfl) ?_
      refine l_x rfl (x_mv rfl) ?_
      refine l_pass rfl ?_
      refine l_pass rfl ?_
      refine l_pass rfl ?_
      refine l_pass rfl ?_
      refine l_x rfl (x_pick_t rfl rfl) ?_
      refine l_x rfl (x_mv rfl) ?_
      refine l_pass rfl ?_
      refine l_pass rfl ?_
      refine l_pass rfl ?_
      refine l_pass rfl ?_
      refine l_x rfl (x_pick_t rfl rfl) ?_
      refine l_x rfl (x_mv rfl) ?_
      refine l_pass rfl ?_
      refine l_pass rfl ?_
      refine l_pass rfl ?_
      refine l_pass rfl ?_
      refine l_x rfl (x_pick_t rfl rfl) ?_
      refine l_x rfl (x_as rfl) ?_
      refine l_nil ?_
      refine r_ret (rs := [.tmp 3]) [_] Try.func95 rfl ⟨rfl, trivial⟩ ?_
      exact ⟨congrArg Value.bool (by simp only [okArc, ← decide_not]; first | (apply decT; omega) | (apply decE; omega)), S9.le⟩
    · skip
      refine l_x rfl (x_fieldAddr rfl Try.runUnderlying39 rfl Try.sizeOf3 (by decide)) ?_
      refine l_x rfl (x_load rfl (ld_blk (S9.blk 0 rfl) Try.isAgg3 rfl)) ?_
      refine l_call [] [] [_, _, _] rfl rfl Try.call64 rfl (c_in _ _ _ _) ?_
      rintro _ w11 ⟨rfl, hl13⟩
      have S12 := S9.step hl13
      refine l_x rfl (x_notd rfl) ?_
      refine l_x rfl (x_pick_f rfl rfl) ?_
      refine l_x rfl (x_mv rfl) ?_
      refine l_splitd (d := 27) rfl (fun hg27 => ?_) (fun hg27 => ?_)
      · skip
        refine l_pass rfl ?_
        refine l_pass rfl ?_
        refine l_pass rfl ?_
        refine l_pass rfl ?_
        refine l_x rfl (x_pick_t rfl rfl) ?_
        refine l_x rfl (x_mv rfl) ?_
        refine l_pass rfl ?_
        refine l_pass rfl ?_
        refine l_pass rfl ?_
        refine l_pass rfl ?_
        refine l_x rfl (x_pick_t rfl rfl) ?_
        refine l_x rfl (x_mv rfl) ?_
        refine l_pass rfl ?_
        refine l_pass rfl ?_
        refine l_pass rfl ?_
        refine l_pass rfl ?_
        refine l_x rfl (x_pick_t rfl rfl) ?_
        refine l_x rfl (x_as rfl) ?_
        refine l_nil ?_
        refine r_ret (rs := [.tmp 3]) [_] Try.func95 rfl ⟨rfl, trivial⟩ ?_
        exact ⟨congrArg Value.bool (by simp only [okArc, ← decide_not]; first | (apply decT; omega) | (apply decE; omega)), S12.le⟩
      · skip
        refine l_x rfl (x_fieldAddr rfl Try.runUnderlying39 rfl Try.sizeOf3 (by decide)) ?_
        refine l_x rfl (x_load rfl (ld_blk (S12.blk 0 rfl) Try.isAgg3 rfl)) ?_
        refine l_call [] [] [_, _, _] rfl rfl Try.call64 rfl (c_in _ _ _ _) ?_
        rintro _ w14 ⟨rfl, hl16⟩
        have S15 := S12.step hl16
        refine l_x rfl (x_notd rfl) ?_
        refine l_x rfl (x_pick_f rfl rfl) ?_
        refine l_x rfl (x_mv rfl) ?_
        refine l_splitd (d := 33) rfl (fun hg33 => ?_) (fun hg33 => ?_)
        · skip
          refine l_pass rfl ?_
          refine l_pass rfl ?_
          refine l_pass rfl ?_
          refine l_pass rfl ?_
          refine l_x rfl (x_pick_t rfl rfl) ?_
          refine l_x rfl (x_mv rfl) ?_
          refine l_pass rfl ?_
          refine l_pass rfl ?_
          refine l_pass rfl ?_
          refine l_pass rfl ?_
          refine l_x rfl (x_pick_t rfl rfl) ?_
          refine l_x rfl (x_as rfl) ?_
          refine l_nil ?_
          refine r_ret (rs := [.tmp 3]) [_] Try.func95 rfl ⟨rfl, trivial⟩ ?_
          exact ⟨congrArg Value.bool (by simp only [okArc, ← decide_not]; first | (apply decT; omega) | (apply decE; omega)), S15.le⟩
        · skip
          refine l_x rfl (x_fieldAddr rfl Try.runUnderlying39 rfl Try.sizeOf3 (by decide)) ?_
          refine l_x rfl (x_load rfl (ld_blk (S15.blk 0 rfl) Try.isAgg3 rfl)) ?_
          refine l_call [] [] [_, _, _] rfl rfl Try.call64 rfl (c_in _ _ _ _) ?_
          rintro _ w17 ⟨rfl, hl19⟩
          have S18 := S15.step hl19
          refine l_x rfl (x_notd rfl) ?_
          refine l_x rfl (x_pick_f rfl rfl) ?_
          refine l_x rfl (x_mv rfl) ?_
          refine l_splitd (d := 39) rfl (fun hg39 => ?_) (fun hg39 => ?_)
          · skip
            refine l_pass rfl ?_
            refine l_pass rfl ?_
            refine l_pass rfl ?_
            refine l_pass rfl ?_
            refine l_x rfl (x_pick_t rfl rfl) ?_
            refine l_x rfl (x_as rfl) ?_
            refine l_nil ?_
            refine r_ret (rs := [.tmp 3]) [_] Try.func95 rfl ⟨rfl, trivial⟩ ?_
            exact ⟨congrArg Value.bool (by simp only [okArc, ← decide_not]; first | (apply decT; omega) | (apply decE; omega)), S18.le⟩
          · skip
            refine l_x rfl (x_fieldAddr rfl Try.runUnderlying39 rfl Try.sizeOf3 (by decide)) ?_
            refine l_x rfl (x_load rfl (ld_blk (S18.blk 0 rfl) Try.isAgg3 rfl)) ?_
            refine l_call [] [] [_, _, _] rfl rfl Try.call64 rfl (c_in _ _ _ _) ?_
            rintro _ w20 ⟨rfl, hl22⟩
            have S21 := S18.step hl22
            refine l_x rfl (x_notd rfl) ?_
            refine l_x rfl (x_pick_f rfl rfl) ?_
            refine l_x rfl (x_as rfl) ?_
            refine l_nil ?_
            refine r_ret (rs := [.tmp 3]) [_] Try.func95 rfl ⟨rfl, trivial⟩ ?_
            exact ⟨congrArg Value.bool (by simp only [okArc, ← decide_not]; first | (apply decT; omega) | (apply decE; omega)), S21.le⟩
  · skip
    refine l_pass rfl ?_
    refine l_pass rfl ?_
    refine l_pass rfl ?_
    refine l_pass rfl ?_
    refine l_pass rfl ?_
    refine l_pass rfl ?_
    refine l_x rfl (x_pick_f rfl rfl) ?_
    refine l_x rfl (x_as rfl) ?_
    refine l_nil ?_
    refine r_seq ?_
    refine r_region ?_
    refine l_x rfl (x_mv rfl) ?_
    refine l_x rfl (x_not rfl) ?_
    refine l_x rfl (x_mv rfl) ?_
    refine l_pass rfl ?_
    refine l_pass rfl ?_
    refine l_pass rfl ?_
    refine l_pass rfl ?_
    refine l_x rfl (x_pick_t rfl rfl) ?_
    refine l_x rfl (x_mv rfl) ?_
    refine l_pass rfl ?_
    refine l_pass rfl ?_
    refine l_pass rfl ?_
    refine l_pass rfl ?_
    refine l_x rfl (x_pick_t rfl rfl) ?_
    refine l_x rfl (x_mv rfl) ?_
    refine l_pass rfl ?_
    refine l_pass rfl ?_
    refine l_pass rfl ?_
    refine l_pass rfl ?_
    refine l_x rfl (x_pick_t rfl rfl) ?_
    refine l_x rfl (x_mv rfl) ?_
    refine l_pass rfl ?_
    refine l_pass rfl ?_
    refine l_pass rfl ?_
    refine l_pass rfl ?_
    refine l_x rfl (x_pick_t rfl rfl) ?_
    refine l_x rfl (x_as rfl) ?_
    refine l_nil ?_
    refine r_ret (rs := [.tmp 3]) [_] Try.func95 rfl ⟨rfl, trivial⟩ ?_
    exact ⟨congrArg Value.bool (by simp only [okArc, ← decide_not]; first | (apply decT; omega) | (apply decE; omega)), S6.le⟩

/-- slices.IndexFunc[[]couchant/api.Arc,couchant/api.Arc]. -/
theorem c_IndexFuncArc (va : Value) (l : List Arc) (p : Arc → Bool) (kf : Nat) (caps : List Value) (hmx : l.length ≤ 9223372036854775807) (w : World) (hA : Rd EA w va l) (he : ∀ args w, (callFunc kf args).run Try.prog w = .ok (.enter kf args) w)
    (hf : ∀ x ∈ l, ∀ w1, Le w w1 → Cl Try.prog kf ([Value.agg x.enc.toArray] ++ caps).toArray w1 fun v w2 => v = .bool (p x) ∧ Le w1 w2) :
    Cl Try.prog 129 #[va, .func (.func kf) #[] caps.toArray] w fun v w' => v = .int .i64 (idx p l) ∧ Le w w' := by
  refine fn_of_run (args := [_, _]) 19 Try.func129 rfl rfl rfl fun cs => ?_
  have S := Own.start (X := nob) w
  refine r_seq ?_
  refine r_region ?_
  refine l_x rfl (x_as rfl) ?_
  refine l_nil ?_
  refine r_seq ?_
  refine r_seq ?_
  refine r_region ?_
  refine l_x rfl (x_mv rfl) ?_
  refine l_x rfl (x_len (hA.le S.le) rfl Try.runUnderlying22) ?_
  refine l_x rfl (x_mv rfl) ?_
  refine l_nil ?_
  refine r_block ?_
  refine r_loop (G := Nat) (fun i => l.length - i) (fun i => [(0, va), (1, .func (.func kf) #[] caps.toArray), (8, .int .i64 i), (7, .int .i64 l.length)]) (fun i w' => (i ≤ l.length) ∧ (∀ x ∈ l.take i, p x = false) ∧ Own nob w w' []) 0 ⟨rfl, rfl, rfl, rfl, trivial⟩ ⟨Nat.zero_le _, by simp, S⟩ ?_
  rintro i ρ w1 ⟨hi, hno, S1⟩ IH
  refine r_seq ?_
  refine r_region ?_
  refine l_x rfl (x_lss rfl rfl) ?_
  refine l_nil ?_
  refine r_seq ?_
  refine r_ifd rfl (fun hc9 => ?_) (fun hc9 => ?_)
  · skip
    have ha : l[i]? = some l[i] := List.getElem?_eq_getElem (by omega)
    refine r_skip ?_
    refine r_seq ?_
    refine r_block ?_
    refine r_seq ?_
    refine r_region ?_
    refine l_x rfl (x_mv rfl) ?_
    refine l_x rfl (x_as rfl) ?_
    refine l_nil ?_
    refine r_seq ?_
    refine r_region ?_
    refine l_x rfl (x_mv rfl) ?_
    refine l_x rfl (x_mv rfl) ?_
    refine l_x rfl (x_mv rfl) ?_
    refine l_index EA rfl (hA.le S1.le) rfl rfl Try.runUnderlying22 Try.sizeOf39 (by omega) (by first | assumption | exact List.getElem?_eq_getElem (by omega)) ?_
    intro b1 o2 hat3 row4
    refine l_x rfl (x_load rfl (ld_row Try.isAgg39 Try.sizeOf39 rfl row4)) ?_
    refine l_call [] caps ([_] ++ caps) rfl rfl he rfl (hf _ (List.mem_of_getElem? ha) _ S1.le) ?_
    rintro _ w5 ⟨rfl, hl7⟩
    have S6 := S1.step hl7
    refine l_nil ?_
    refine r_if rfl (fun hc16 => ?_) (fun hc16 => ?_)
    · skip
      refine r_seq ?_
      refine r_region ?_
      refine l_x rfl (x_mv rfl) ?_
      refine l_x rfl (x_as rfl) ?_
      refine l_nil ?_
      refine r_ret (rs := [.tmp 4]) [_] Try.func129 rfl ⟨rfl, trivial⟩ ?_
      exact ⟨congrArg (Value.int .i64) (idx_at ha hc16 hno).symm, S6.le⟩
    · skip
      have hno' : ∀ x ∈ l.take (i + 1), p x = false := by
        intro x hx
        rw [List.take_add_one, ha] at hx
        rcases List.mem_append.1 hx with h | h
        · exact hno x h
        · simp at h; subst h; exact hc16
      refine r_skip ?_
      refine r_inBlock ?_
      refine r_region ?_
      refine l_x rfl (x_add rfl rfl (by omega)) ?_
      refine l_x rfl (x_mv rfl) ?_
      refine l_nil ?_
      exact IH (i + 1) _ _ (by omega) ⟨rfl, rfl, rfl, rfl, trivial⟩ ⟨by omega, hno', S6⟩
  · skip
    have hi : i = l.length := by omega
    subst hi
    refine r_exit rfl ?_
    refine r_seq ?_
    refine r_region ?_
    refine l_x rfl (x_as rfl) ?_
    refine l_nil ?_
    refine r_ret (rs := [.tmp 4]) [_] Try.func129 rfl ⟨rfl, trivial⟩ ?_
    exact ⟨congrArg (Value.int .i64) (idx_none (by rwa [List.take_length] at hno)).symm, S1.le⟩

/-- slices.ContainsFunc[[]couchant/api.Arc,couchant/api.Arc]. -/
theorem c_ContainsFuncArc (va : Value) (l : List Arc) (p : Arc → Bool) (kf : Nat) (caps : List Value) (hmx : l.length ≤ 9223372036854775807) (w : World) (hA : Rd EA w va l) (he : ∀ args w, (callFunc kf args).run Try.prog w = .ok (.enter kf args) w)
    (hf : ∀ x ∈ l, ∀ w1, Le w w1 → Cl Try.prog kf ([Value.agg x.enc.toArray] ++ caps).toArray w1 fun v w2 => v = .bool (p x) ∧ Le w1 w2) :
    Cl Try.prog 94 #[va, .func (.func kf) #[] caps.toArray] w fun v w' => v = .bool (l.any p) ∧ Le w w' := by
  refine fn_of_run (args := [_, _]) 9 Try.func94 rfl rfl rfl fun cs => ?_
  have S := Own.start (X := nob) w
  refine r_seq ?_
  refine r_region ?_
  refine l_x rfl (x_as rfl) ?_
  refine l_nil ?_
  refine r_seq ?_
  refine r_region ?_
  refine l_x rfl (x_mv rfl) ?_
  refine l_x rfl (x_mv rfl) ?_
  refine l_call [] [] [_, _] rfl rfl Try.call129 rfl (c_IndexFuncArc _ _ p kf caps hmx _ (hA.le S.le) he (fun x hx w1 h1 => hf x hx w1 (S.le.trans h1))) ?_
  rintro _ w1 ⟨rfl, hl3⟩
  have S2 := S.step hl3
  refine l_x rfl (x_geq rfl rfl) ?_
  refine l_x rfl (x_as rfl) ?_
  refine l_nil ?_
  refine r_ret (rs := [.tmp 4]) [_] Try.func94 rfl ⟨rfl, trivial⟩ ?_
  exact ⟨congrArg Value.bool (Bool.eq_iff_iff.2 (by rw [decide_eq_true_iff]; exact idx_ge p l)), S2.le⟩

/-- slices.IndexFunc[[]int,int]. -/
theorem c_IndexFuncInt (va : Value) (l : List Int) (p : Int → Bool) (kf : Nat) (caps : List Value) (hmx : l.length ≤ 9223372036854775807) (w : World) (hA : Rd EI w va l) (he : ∀ args w, (callFunc kf args).run Try.prog w = .ok (.enter kf args) w)
    (hf : ∀ x ∈ l, ∀ w1, Le w w1 → Cl Try.prog kf ([Value.int .i64 x] ++ caps).toArray w1 fun v w2 => v = .bool (p x) ∧ Le w1 w2) :
    Cl Try.prog 117 #[va, .func (.func kf) #[] caps.toArray] w fun v w' => v = .int .i64 (idx p l) ∧ Le w w' := by
  refine fn_of_run (args := [_, _]) 19 Try.func117 rfl rfl rfl fun cs => ?_
  have S := Own.start (X := nob) w
  refine r_seq ?_
  refine r_region ?_
  refine l_x rfl (x_as rfl) ?_
  refine l_nil ?_
  refine r_seq ?_
  refine r_seq ?_
  refine r_region ?_
  refine l_x rfl (x_mv rfl) ?_
  refine l_x rfl (x_len (hA.le S.le) rfl Try.runUnderlying25) ?_
  refine l_x rfl (x_mv rfl) ?_
  refine l_nil ?_
  refine r_block ?_
  refine r_loop (G := Nat) (fun i => l.length - i) (fun i => [(0, va), (1, .func (.func kf) #[] caps.toArray), (8, .int .i64 i), (7, .int .i64 l.length)]) (fun i w' => (i ≤ l.length) ∧ (∀ x ∈ l.take i, p x = false) ∧ Own nob w w' []) 0 ⟨rfl, rfl, rfl, rfl, trivial⟩ ⟨Nat.zero_le _, by simp, S⟩ ?_
  rintro i ρ w1 ⟨hi, hno, S1⟩ IH
  refine r_seq ?_
  refine r_region ?_
  refine l_x rfl (x_lss rfl rfl) ?_
  refine l_nil ?_
  refine r_seq ?_
  refine r_ifd rfl (fun hc9 => ?_) (fun hc9 => ?_)
  · skip
    have ha : l[i]? = some l[i] := List.getElem?_eq_getElem (by omega)
    refine r_skip ?_
    refine r_seq ?_
    refine r_block ?_
    refine r_seq ?_
    refine r_region ?_
    refine l_x rfl (x_mv rfl) ?_
    refine l_x rfl (x_as rfl) ?_
    refine l_nil ?_
    refine r_seq ?_
    refine r_region ?_
    refine l_x rfl (x_mv rfl) ?_
    refine l_x rfl (x_mv rfl) ?_
    refine l_x rfl (x_mv rfl) ?_
    refine l_index EI rfl (hA.le S1.le) rfl rfl Try.runUnderlying25 Try.sizeOf3 (by omega) (by first | assumption | exact List.getElem?_eq_getElem (by omega)) ?_
    intro b1 o2 hat3 row4
    refine l_x rfl (x_load rfl (ld_cell Try.isAgg3 (row4 0 _ rfl))) ?_
    refine l_call [] caps ([_] ++ caps) rfl rfl he rfl (hf _ (List.mem_of_getElem? ha) _ S1.le) ?_
    rintro _ w5 ⟨rfl, hl7⟩
    have S6 := S1.step hl7
    refine l_nil ?_
    refine r_if rfl (fun hc16 => ?_) (fun hc16 => ?_)
    · skip
      refine r_seq ?_
      refine r_region ?_
      refine l_x rfl (x_mv rfl) ?_
      refine l_x rfl (x_as rfl) ?_
      refine l_nil ?_
      refine r_ret (rs := [.tmp 4]) [_] Try.func117 rfl ⟨rfl, trivial⟩ ?_
      exact ⟨congrArg (Value.int .i64) (idx_at ha hc16 hno).symm, S6.le⟩
    · skip
      have hno' : ∀ x ∈ l.take (i + 1), p x = false := by
        intro x hx
        rw [List.take_add_one, ha] at hx
        rcases List.mem_append.1 hx with h | h
        · exact hno x h
        · simp at h; subst h; exact hc16
      refine r_skip ?_
      refine r_inBlock ?_
      refine r_region ?_
      refine l_x rfl (x_add rfl rfl (by omega)) ?_
      refine l_x rfl (x_mv rfl) ?_
      refine l_nil ?_
      exact IH (i + 1) _ _ (by omega) ⟨rfl, rfl, rfl, rfl, trivial⟩ ⟨by omega, hno', S6⟩
  · skip
    have hi : i = l.length := by omega
    subst hi
    refine r_exit rfl ?_
    refine r_seq ?_
    refine r_region ?_
    refine l_x rfl (x_as rfl) ?_
    refine l_nil ?_
    refine r_ret (rs := [.tmp 4]) [_] Try.func117 rfl ⟨rfl, trivial⟩ ?_
    exact ⟨congrArg (Value.int .i64) (idx_none (by rwa [List.take_length] at hno)).symm, S1.le⟩

/-- slices.ContainsFunc[[]int,int]. -/
theorem c_ContainsFuncInt (va : Value) (l : List Int) (p : Int → Bool) (kf : Nat) (caps : List Value) (hmx : l.length ≤ 9223372036854775807) (w : World) (hA : Rd EI w va l) (he : ∀ args w, (callFunc kf args).run Try.prog w = .ok (.enter kf args) w)
    (hf : ∀ x ∈ l, ∀ w1, Le w w1 → Cl Try.prog kf ([Value.int .i64 x] ++ caps).toArray w1 fun v w2 => v = .bool (p x) ∧ Le w1 w2) :
    Cl Try.prog 111 #[va, .func (.func kf) #[] caps.toArray] w fun v w' => v = .bool (l.any p) ∧ Le w w' := by
  refine fn_of_run (args := [_, _]) 9 Try.func111 rfl rfl rfl fun cs => ?_
  have S := Own.start (X := nob) w
  refine r_seq ?_
  refine r_region ?_
  refine l_x rfl (x_as rfl) ?_
  refine l_nil ?_
  refine r_seq ?_
  refine r_region ?_
  refine l_x rfl (x_mv rfl) ?_
  refine l_x rfl (x_mv rfl) ?_
  refine l_call [] [] [_, _] rfl rfl Try.call117 rfl (c_IndexFuncInt _ _ p kf caps hmx _ (hA.le S.le) he (fun x hx w1 h1 => hf x hx w1 (S.le.trans h1))) ?_
  rintro _ w1 ⟨rfl, hl3⟩
  have S2 := S.step hl3
  refine l_x rfl (x_geq rfl rfl) ?_
  refine l_x rfl (x_as rfl) ?_
  refine l_nil ?_
  refine r_ret (rs := [.tmp 4]) [_] Try.func111 rfl ⟨rfl, trivial⟩ ?_
  exact ⟨congrArg Value.bool (Bool.eq_iff_iff.2 (by rw [decide_eq_true_iff]; exact idx_ge p l)), S2.le⟩

/-- couchant/flow.Check. -/
theorem c_Check (N : Int) (va : Value) (arcs : List Arc) (w : World) (hA : Rd EA w va arcs) :
    Cl Try.prog 36 #[.agg #[.int .i64 N, va]] w fun v w' => v = .int .i64 (chk N arcs) ∧ Le w w' := by
  refine fn_of_run (args := [_]) 21 Try.func36 rfl rfl rfl fun cs => ?_
  have S := Own.start (X := nob) w
  refine r_seq ?_
  refine r_region ?_
  refine l_box S rfl rfl ?_
  intro b4 w1 S2 hl3
  refine l_x rfl (x_as rfl) ?_
  refine l_nil ?_
  refine r_seq ?_
  refine r_seq ?_
  refine r_region ?_
  refine l_x rfl (x_fieldAddr rfl Try.runUnderlying24 rfl Try.sizeOf3 (by decide)) ?_
  refine l_x rfl (x_load rfl (ld_blk (S2.blk 0 rfl) Try.isAgg3 rfl)) ?_
  refine l_x rfl (x_gtr rfl rfl) ?_
  refine l_x rfl (x_mv rfl) ?_
  refine l_splitd (d := 6) rfl (fun hg6 => ?_) (fun hg6 => ?_)
  · skip
    refine l_pass rfl ?_
    refine l_pass rfl ?_
    refine l_pass rfl ?_
    refine l_pass rfl ?_
    refine l_x rfl (x_pick_t rfl rfl) ?_
    refine l_nil ?_
    refine r_true rfl ?_
    refine r_seq ?_
    refine r_region ?_
    refine l_x rfl (x_as rfl) ?_
    refine l_nil ?_
    refine r_ret (rs := [.tmp 2]) [_] Try.func36 rfl ⟨rfl, trivial⟩ ?_
    exact ⟨congrArg (Value.int .i64) (by rw [chk, if_pos (by omega)]), S2.le⟩
  · skip
    refine l_x rfl (x_fieldAddr rfl Try.runUnderlying24 rfl Try.sizeOf22 (by decide)) ?_
    refine l_x rfl (x_load rfl (ld_blk (S2.blk 0 rfl) Try.isAgg22 rfl)) ?_
    refine l_x rfl (x_len (hA.le S2.le) rfl Try.runUnderlying22) ?_
    refine l_x rfl (x_gtr rfl rfl) ?_
    refine l_x rfl (x_pick_f rfl rfl) ?_
    refine l_nil ?_
    refine r_ifd rfl (fun hc11 => ?_) (fun hc11 => ?_)
    · skip
      refine r_seq ?_
      refine r_region ?_
      refine l_x rfl (x_as rfl) ?_
      refine l_nil ?_
      refine r_ret (rs := [.tmp 2]) [_] Try.func36 rfl ⟨rfl, trivial⟩ ?_
      exact ⟨congrArg (Value.int .i64) (by rw [chk, if_pos (by omega)]), S2.le⟩
    · skip
      refine r_skip ?_
      refine r_seq ?_
      refine r_seq ?_
      refine r_region ?_
      refine l_x rfl (x_fieldAddr rfl Try.runUnderlying24 rfl Try.sizeOf3 (by decide)) ?_
      refine l_x rfl (x_load rfl (ld_blk (S2.blk 0 rfl) Try.isAgg3 rfl)) ?_
      refine l_x rfl (x_lss rfl rfl) ?_
      refine l_x rfl (x_mv rfl) ?_
      refine l_splitd (d := 15) rfl (fun hg15 => ?_) (fun hg15 => ?_)
      · skip
        refine l_pass rfl ?_
        refine l_pass rfl ?_
        refine l_pass rfl ?_
        refine l_pass rfl ?_
        refine l_x rfl (x_pick_t rfl rfl) ?_
        refine l_nil ?_
        refine r_true rfl ?_
        refine r_seq ?_
        refine r_region ?_
        refine l_x rfl (x_as rfl) ?_
        refine l_nil ?_
        refine r_ret (rs := [.tmp 2]) [_] Try.func36 rfl ⟨rfl, trivial⟩ ?_
        exact ⟨congrArg (Value.int .i64) (by rw [chk, if_neg (by omega), if_pos (.inl (by omega))]), S2.le⟩
      · skip
        refine l_x rfl (x_fieldAddr rfl Try.runUnderlying24 rfl Try.sizeOf22 (by decide)) ?_
        refine l_x rfl (x_load rfl (ld_blk (S2.blk 0 rfl) Try.isAgg22 rfl)) ?_
        refine l_x rfl (x_func rfl rfl) ?_
        refine l_call [] [] [_, _] rfl rfl Try.call94 rfl (c_ContainsFuncArc _ _ (fun a => !okArc N a) 95 _ (by omega) _ (hA.le S2.le) Try.call95 (fun x hx w1 h1 => c_Check1 N x va _ ⟨by omega, by omega⟩ w1 ((S2.blk 0 rfl).keep h1 id))) ?_
        rintro _ w5 ⟨rfl, hl7⟩
        have S6 := S2.step hl7
        refine l_x rfl (x_pick_f rfl rfl) ?_
        refine l_nil ?_
        refine r_if rfl (fun hc20 => ?_) (fun hc20 => ?_)
        · skip
          refine r_seq ?_
          refine r_region ?_
          refine l_x rfl (x_as rfl) ?_
          refine l_nil ?_
          refine r_ret (rs := [.tmp 2]) [_] Try.func36 rfl ⟨rfl, trivial⟩ ?_
          exact ⟨congrArg (Value.int .i64) (by rw [chk, if_neg (by omega), if_pos (.inr hc20)]), S6.le⟩
        · skip
          refine r_skip ?_
          refine r_seq ?_
          refine r_region ?_
          refine l_x rfl (x_as rfl) ?_
          refine l_nil ?_
          refine r_ret (rs := [.tmp 2]) [_] Try.func36 rfl ⟨rfl, trivial⟩ ?_
          exact ⟨congrArg (Value.int .i64) (by rw [chk, if_neg (by omega), if_neg (by rintro (h | h) <;> first | omega | (rw [h] at hc20; cases hc20))]), S6.le⟩

/-- couchant/flow.asked. -/
theorem c_asked (N : Int) (va : Value) (arcs : List Arc) (p : Bool) (kf : Nat) (caps : List Value) (w : World) (hA : Rd EA w va arcs) (he : ∀ args w, (callFunc kf args).run Try.prog w = .ok (.enter kf args) w)
    (hf : chk N arcs = 0 → ∀ w1, Le w w1 → Cl Try.prog kf caps.toArray w1 fun v w2 => v = .bool p ∧ Le w1 w2) :
    Cl Try.prog 62 #[.agg #[.int .i64 N, va], .func (.func kf) #[] caps.toArray] w fun v w' => v = .int .i64 (askd N arcs p) ∧ Le w w' := by
  refine fn_of_run (args := [_, _]) 14 Try.func62 rfl rfl rfl fun cs => ?_
  have S := Own.start (X := nob) w
  refine r_seq ?_
  refine r_region ?_
  refine l_box S rfl rfl ?_
  intro b4 w1 S2 hl3
  refine l_x rfl (x_as rfl) ?_
  refine l_nil ?_
  refine r_seq ?_
  refine r_seq ?_
  refine r_region ?_
  refine l_x rfl (x_load rfl (ld_blks (S2.blk 0 rfl) Try.isAgg24 Try.sizeOf24 rfl rfl)) ?_
  refine l_call [] [] [_] rfl rfl Try.call36 rfl (c_Check N va arcs _ (hA.le S2.le)) ?_
  rintro _ w5 ⟨rfl, hl7⟩
  have S6 := S2.step hl7
  refine l_x rfl (x_as rfl) ?_
  refine l_nil ?_
  refine r_seq ?_
  refine r_region ?_
  refine l_x rfl (x_mv rfl) ?_
  refine l_x rfl (x_neq rfl rfl) ?_
  refine l_nil ?_
  refine r_ifd rfl (fun hc9 => ?_) (fun hc9 => ?_)
  · skip
    refine r_seq ?_
    refine r_region ?_
    refine l_x rfl (x_mv rfl) ?_
    refine l_x rfl (x_as rfl) ?_
    refine l_nil ?_
    refine r_ret (rs := [.tmp 4]) [_] Try.func62 rfl ⟨rfl, trivial⟩ ?_
    exact ⟨congrArg (Value.int .i64) (by rw [askd, if_pos hc9]), S6.le⟩
  · skip
    refine r_skip ?_
    refine r_seq ?_
    refine r_seq ?_
    refine r_region ?_
    refine l_x rfl (x_mv rfl) ?_
    refine l_call [] caps ([] ++ caps) rfl rfl he rfl (hf (by simpa using hc9) _ S6.le) ?_
    rintro _ w8 ⟨rfl, hl10⟩
    have S9 := S6.step hl10
    refine l_x rfl (x_not rfl) ?_
    refine l_nil ?_
    refine r_if rfl (fun hc13 => ?_) (fun hc13 => ?_)
    · skip
      refine r_seq ?_
      refine r_region ?_
      refine l_x rfl (x_as rfl) ?_
      refine l_nil ?_
      refine r_ret (rs := [.tmp 4]) [_] Try.func62 rfl ⟨rfl, trivial⟩ ?_
      exact ⟨congrArg (Value.int .i64) (by rw [askd, if_neg hc9, if_neg (by simpa using hc13)]), S9.le⟩
    · skip
      refine r_skip ?_
      refine r_seq ?_
      refine r_region ?_
      refine l_x rfl (x_as rfl) ?_
      refine l_nil ?_
      refine r_ret (rs := [.tmp 4]) [_] Try.func62 rfl ⟨rfl, trivial⟩ ?_
      exact ⟨congrArg (Value.int .i64) (by rw [askd, if_neg hc9, if_pos (by simpa using hc13)]), S9.le⟩

/-- couchant/flow.row$1. -/
theorem c_row1 (x a b : Int) (b1 b2 : Nat) (w : World) (h1 : Blk w b1 [.int .i64 a] 3) (h2 : Blk w b2 [.int .i64 b] 3) :
    Cl Try.prog 134 #[.int .i64 x, .pointer (some ⟨b1, 0, none⟩), .pointer (some ⟨b2, 0, none⟩)] w fun v w' => v = .bool (!decide (a ≤ x ∧ x ≤ b)) ∧ Le w w' := by
  refine fn_of_run (args := [_, _, _]) 10 Try.func134 rfl rfl rfl fun cs => ?_
  have S := Own.start (X := nob) w
  refine r_seq ?_
  refine r_region ?_
  refine l_x rfl (x_as rfl) ?_
  refine l_nil ?_
  refine r_seq ?_
  refine r_region ?_
  refine l_x rfl (x_mv rfl) ?_
  refine l_x rfl (x_load rfl (ld_blk (h1.keep S.le id) Try.isAgg3 rfl)) ?_
  refine l_x rfl (x_load rfl (ld_blk (h2.keep S.le id) Try.isAgg3 rfl)) ?_
  refine l_call [] [] [_, _, _] rfl rfl Try.call64 rfl (c_in _ _ _ _) ?_
  rintro _ w1 ⟨rfl, hl3⟩
  have S2 := S.step hl3
  refine l_x rfl (x_notd rfl) ?_
  refine l_x rfl (x_as rfl) ?_
  refine l_nil ?_
  refine r_ret (rs := [.tmp 4]) [_] Try.func134 rfl ⟨rfl, trivial⟩ ?_
  exact ⟨congrArg Value.bool (by rw [decide_not]), S2.le⟩

/-- couchant/flow.row. -/
theorem c_row (vl : Value) (l : List Int) (n a b : Int) (hmx : l.length ≤ 9223372036854775807) (w : World) (hL : Rd EI w vl l) :
    Cl Try.prog 119 #[vl, .int .i64 n, .int .i64 a, .int .i64 b] w fun v w' => v = .bool (row l n a b) ∧ Le w w' := by
  refine fn_of_run (args := [_, _, _, _]) 19 Try.func119 rfl rfl rfl fun cs => ?_
  have S := Own.start (X := nob) w
  refine r_seq ?_
  refine r_region ?_
  refine l_box S rfl rfl ?_
  intro b4 w1 S2 hl3
  refine l_box S2 rfl rfl ?_
  intro b8 w5 S6 hl7
  refine l_x rfl (x_as rfl) ?_
  refine l_nil ?_
  refine r_seq ?_
  refine r_region ?_
  refine l_x rfl (x_mv rfl) ?_
  refine l_x rfl (x_len (hL.le S6.le) rfl Try.runUnderlying25) ?_
  refine l_x rfl (x_mv rfl) ?_
  refine l_x rfl (x_eql rfl rfl) ?_
  refine l_x rfl (x_mv rfl) ?_
  refine l_splitd (d := 13) rfl (fun hg13 => ?_) (fun hg13 => ?_)
  · skip
    refine l_x rfl (x_mv rfl) ?_
    refine l_x rfl (x_func rfl rfl) ?_
    refine l_call [] [] [_, _] rfl rfl Try.call111 rfl (c_ContainsFuncInt _ _ (fun x => !decide (a ≤ x ∧ x ≤ b)) 134 _ (by omega) _ (hL.le S6.le) Try.call134 (fun x hx w1 h1 => c_row1 x a b _ _ w1 ((S6.blk 0 rfl).keep h1 id) ((S6.blk 1 rfl).keep h1 id))) ?_
    rintro _ w9 ⟨rfl, hl11⟩
    have S10 := S6.step hl11
    refine l_x rfl (x_not rfl) ?_
    refine l_x rfl (x_pick_t rfl rfl) ?_
    refine l_x rfl (x_as rfl) ?_
    refine l_nil ?_
    refine r_ret (rs := [.tmp 8]) [_] Try.func119 rfl ⟨rfl, trivial⟩ ?_
    exact ⟨congrArg Value.bool (by simp only [row, decide_eq_true hg13, Bool.true_and]), S10.le⟩
  · skip
    refine l_pass rfl ?_
    refine l_pass rfl ?_
    refine l_pass rfl ?_
    refine l_pass rfl ?_
    refine l_x rfl (x_pick_f rfl rfl) ?_
    refine l_x rfl (x_as rfl) ?_
    refine l_nil ?_
    refine r_ret (rs := [.tmp 8]) [_] Try.func119 rfl ⟨rfl, trivial⟩ ?_
    exact ⟨congrArg Value.bool (by simp only [row, decide_eq_false hg13, Bool.false_and]), S6.le⟩

/-- couchant/flow.amounts. -/
theorem c_amounts (N : Int) (va : Value) (arcs : List Arc) (vl : Value) (l : List Int) (hmx : l.length ≤ 9223372036854775807) (w : World) (hA : Rd EA w va arcs) (hL : Rd EI w vl l) :
    Cl Try.prog 67 #[.agg #[.int .i64 N, va], vl] w fun v w' => v = .bool (row l arcs.length (0) 1000000) ∧ Le w w' := by
  refine fn_of_run (args := [_, _]) 10 Try.func67 rfl rfl rfl fun cs => ?_
  have S := Own.start (X := nob) w
  refine r_seq ?_
  refine r_region ?_
  refine l_box S rfl rfl ?_
  intro b4 w1 S2 hl3
  refine l_x rfl (x_as rfl) ?_
  refine l_nil ?_
  refine r_seq ?_
  refine r_region ?_
  refine l_x rfl (x_mv rfl) ?_
  refine l_x rfl (x_fieldAddr rfl Try.runUnderlying24 rfl Try.sizeOf22 (by decide)) ?_
  refine l_x rfl (x_load rfl (ld_blk (S2.blk 0 rfl) Try.isAgg22 rfl)) ?_
  refine l_x rfl (x_len (hA.le S2.le) rfl Try.runUnderlying22) ?_
  refine l_call [] [] [_, _, _, _] rfl rfl Try.call119 rfl (c_row _ _ _ _ _ (by omega) _ (hL.le S2.le)) ?_
  rintro _ w5 ⟨rfl, hl7⟩
  have S6 := S2.step hl7
  refine l_x rfl (x_as rfl) ?_
  refine l_nil ?_
  refine r_ret (rs := [.tmp 4]) [_] Try.func67 rfl ⟨rfl, trivial⟩ ?_
  exact ⟨rfl, S6.le⟩

/-- couchant/flow.weights. -/
theorem c_weights (N : Int) (va : Value) (arcs : List Arc) (vl : Value) (l : List Int) (hmx : l.length ≤ 9223372036854775807) (w : World) (hA : Rd EA w va arcs) (hL : Rd EI w vl l) :
    Cl Try.prog 70 #[.agg #[.int .i64 N, va], vl] w fun v w' => v = .bool (row l arcs.length (-1000) 1000) ∧ Le w w' := by
  refine fn_of_run (args := [_, _]) 10 Try.func70 rfl rfl rfl fun cs => ?_
  have S := Own.start (X := nob) w
  refine r_seq ?_
  refine r_region ?_
  refine l_box S rfl rfl ?_
  intro b4 w1 S2 hl3
  refine l_x rfl (x_as rfl) ?_
  refine l_nil ?_
  refine r_seq ?_
  refine r_region ?_
  refine l_x rfl (x_mv rfl) ?_
  refine l_x rfl (x_fieldAddr rfl Try.runUnderlying24 rfl Try.sizeOf22 (by decide)) ?_
  refine l_x rfl (x_load rfl (ld_blk (S2.blk 0 rfl) Try.isAgg22 rfl)) ?_
  refine l_x rfl (x_len (hA.le S2.le) rfl Try.runUnderlying22) ?_
  refine l_call [] [] [_, _, _, _] rfl rfl Try.call119 rfl (c_row _ _ _ _ _ (by omega) _ (hL.le S2.le)) ?_
  rintro _ w5 ⟨rfl, hl7⟩
  have S6 := S2.step hl7
  refine l_x rfl (x_as rfl) ?_
  refine l_nil ?_
  refine r_ret (rs := [.tmp 4]) [_] Try.func70 rfl ⟨rfl, trivial⟩ ?_
  exact ⟨rfl, S6.le⟩

/-- couchant/flow.potentials. -/
theorem c_potentials (N : Int) (va : Value) (vl : Value) (l : List Int) (hmx : l.length ≤ 9223372036854775807) (w : World) (hL : Rd EI w vl l) :
    Cl Try.prog 89 #[.agg #[.int .i64 N, va], vl] w fun v w' => v = .bool (row l N (-10000000) 10000000) ∧ Le w w' := by
  refine fn_of_run (args := [_, _]) 9 Try.func89 rfl rfl rfl fun cs => ?_
  have S := Own.start (X := nob) w
  refine r_seq ?_
  refine r_region ?_
  refine l_box S rfl rfl ?_
  intro b4 w1 S2 hl3
  refine l_x rfl (x_as rfl) ?_
  refine l_nil ?_
  refine r_seq ?_
  refine r_region ?_
  refine l_x rfl (x_mv rfl) ?_
  refine l_x rfl (x_fieldAddr rfl Try.runUnderlying24 rfl Try.sizeOf3 (by decide)) ?_
  refine l_x rfl (x_load rfl (ld_blk (S2.blk 0 rfl) Try.isAgg3 rfl)) ?_
  refine l_call [] [] [_, _, _, _] rfl rfl Try.call119 rfl (c_row _ _ _ _ _ (by omega) _ (hL.le S2.le)) ?_
  rintro _ w5 ⟨rfl, hl7⟩
  have S6 := S2.step hl7
  refine l_x rfl (x_as rfl) ?_
  refine l_nil ?_
  refine r_ret (rs := [.tmp 4]) [_] Try.func89 rfl ⟨rfl, trivial⟩ ?_
  exact ⟨rfl, S6.le⟩

end Go.Proofs

/-
  Contracts of functions of the program: each by symbolic execution of its text.
-/
namespace Go.Proofs
open Go Go.Vk Go.Vk.Flow

/-- couchant/flow.kept. -/
theorem c_kept (N : Int) (va : Value) (arcs : List Arc) (vx : Value) (x : List Int) (hV : Valid N arcs) (hx : Amts arcs x) (w : World) (hA : Rd EA w va arcs) (hX : Rd EI w vx x) :
    Cl Try.prog 68 #[.agg #[.int .i64 N, va], vx] w fun v w' => v = .bool (Flow.kept 1000 arcs x) ∧ Le w w' := by
  have hNx := hV.max
  have hLx := hV.len
  refine fn_of_run (args := [_, _]) 50 Try.func68 rfl rfl rfl fun cs => ?_
  have S := Own.start (X := nob) w
  refine r_seq ?_
  refine r_region ?_
  refine l_box S rfl rfl ?_
  intro b4 w1 S2 hl3
  refine l_x rfl (x_as rfl) ?_
  refine l_nil ?_
  refine r_seq ?_
  refine r_region ?_
  refine l_alloc S2 rfl Try.zeroValue89 zcT ?_
  intro b8 w5 S6 hl7
  refine l_nil ?_
  refine r_seq ?_
  refine r_seq ?_
  refine r_region ?_
  refine l_x rfl (x_fieldAddr rfl Try.runUnderlying24 rfl Try.sizeOf22 (by decide)) ?_
  refine l_x rfl (x_load rfl (ld_blk (S6.blk 0 rfl) Try.isAgg22 rfl)) ?_
  refine l_x rfl (x_len (hA.le S6.le) rfl Try.runUnderlying22) ?_
  refine l_x rfl (x_mv rfl) ?_
  refine l_nil ?_
  refine r_block ?_
  refine r_loop (G := Nat) (fun i => arcs.length - i) (fun i => [(1, vx), (9, va), (11, .int .i64 i), (10, .int .i64 arcs.length), (2, .pointer (some ⟨b4, 0, none⟩)), (5, .pointer (some ⟨b8, 0, none⟩))]) (fun i w' => (i ≤ arcs.length) ∧ (within (arcs.take i) (x.take i) = true) ∧ Own nob w w' [blk b4 [.int .i64 N, va] 24, blk b8 (tab 1000 (ex (arcs.take i) (x.take i))) 89]) 0 ⟨rfl, rfl, rfl, rfl, rfl, rfl, trivial⟩ ⟨Nat.zero_le _, by simp [within], (by rw [ex_zero]; exact S6)⟩ ?_
  rintro i ρ w1 ⟨hi, hw, S1⟩ IH
  refine r_seq ?_
  refine r_region ?_
  refine l_x rfl (x_lss rfl rfl) ?_
  refine l_nil ?_
  refine r_seq ?_
  refine r_ifd rfl (fun hc12 => ?_) (fun hc12 => ?_)
  · skip
    obtain ⟨a, ha⟩ : ∃ a, arcs[i]? = some a := ⟨_, List.getElem?_eq_getElem (by omega)⟩
    obtain ⟨y, hy⟩ : ∃ y, x[i]? = some y := ⟨_, List.getElem?_eq_getElem (by have := hx.len; omega)⟩
    have hok := hV.at ha
    have hyb := hx.at hy
    refine r_skip ?_
    refine r_seq ?_
    refine r_block ?_
    refine r_seq ?_
    refine r_region ?_
    refine l_x rfl (x_mv rfl) ?_
    refine l_index EA rfl (hA.le S1.le) rfl rfl Try.runUnderlying22 Try.sizeOf39 (by omega) (by first | assumption | exact List.getElem?_eq_getElem (by omega)) ?_
    intro b9 o10 hat11 row12
    refine l_x rfl (x_load rfl (ld_row Try.isAgg39 Try.sizeOf39 rfl row12)) ?_
    refine l_alloc S1 rfl Try.zeroValue39 rfl ?_
    intro b16 w13 S14 hl15
    refine l_x rfl (x_as rfl) ?_
    refine l_stores S14 2 rfl rfl rfl rfl (EA.one _) Try.sizeOf39 (by first | exact Nat.le_refl _ | simp) (splice_all rfl) ?_
    intro w17 S18 hk19
    refine l_nil ?_
    refine r_seq ?_
    refine r_seq ?_
    refine r_drawR 10 Try.mixed (by kernel_rfl) ?_
    refine w_x rfl (fun w1 h1 => x_mv rfl) ?_
    refine w_x rfl (fun w1 h1 => x_mv rfl) ?_
    refine w_index EI rfl (hX.le S18.le) rfl rfl Try.runUnderlying25 Try.sizeOf3 (by omega) (by first | assumption | exact List.getElem?_eq_getElem (by omega)) ?_
    intro b20 o21 hat22 row23
    refine w_x rfl (fun w1 h1 => x_load rfl (ld_cell Try.isAgg3 ((row23.le h1) 0 _ rfl))) ?_
    refine w_x rfl (fun w1 h1 => x_fieldAddr rfl Try.runUnderlying39 rfl Try.sizeOf3 (by decide)) ?_
    refine w_x rfl (fun w1 h1 => x_load rfl (ld_blk ((S18.step h1).blk 2 rfl) Try.isAgg3 rfl)) ?_
    refine w_x rfl (fun w1 h1 => x_fieldAddr rfl Try.runUnderlying39 rfl Try.sizeOf3 (by decide)) ?_
    refine w_x rfl (fun w1 h1 => x_load rfl (ld_blk ((S18.step h1).blk 2 rfl) Try.isAgg3 rfl)) ?_
    refine wd_call [] [] [_, _, _] rfl rfl Try.call64 rfl (fun w1 h1 => c_in _ _ _ _) ?_
    refine w_x rfl (fun w1 h1 => x_notd rfl) ?_
    refine w_nil ?_
    intro w24 hl25
    have S26 := S18.step hl25
    refine l_nil ?_
    refine r_ifd rfl (fun hc25 => ?_) (fun hc25 => ?_)
    · skip
      refine r_seq ?_
      refine r_region ?_
      refine l_x rfl (x_as rfl) ?_
      refine l_nil ?_
      refine r_ret (rs := [.tmp 4]) [_] Try.func68 rfl ⟨rfl, trivial⟩ ?_
      exact ⟨congrArg Value.bool (by rw [Flow.kept, within_ge (i := i + 1) (by rw [within_take ha hy, hw, decide_eq_false hc25]; rfl)]; rfl), S26.le⟩
    · skip
      have hw' : within (arcs.take (i + 1)) (x.take (i + 1)) = true := by rw [within_take ha hy, hw, decide_eq_true (by omega)]; rfl
      refine r_skip ?_
      refine r_seq ?_
      have hb1 := ex_bd_take hV hx i a.dst.toNat
      refine r_drawR 10 Try.mixed (by kernel_rfl) ?_
      refine w_x rfl (fun w1 h1 => x_fieldAddr rfl Try.runUnderlying39 rfl Try.sizeOf3 (by decide)) ?_
      refine w_x rfl (fun w1 h1 => x_load rfl (ld_blk ((S26.step h1).blk 2 rfl) Try.isAgg3 rfl)) ?_
      refine w_x rfl (fun w1 h1 => x_indexAddr_array rfl rfl Try.runUnderlying89 Try.sizeOf3 (by omega)) ?_
      refine w_x rfl (fun w1 h1 => x_load rfl (ld_blk ((S26.step h1).blk 1 rfl) Try.isAgg3 (tabs_get rfl (by omega)))) ?_
      refine w_x rfl (fun w1 h1 => x_mv rfl) ?_
      refine w_x rfl (fun w1 h1 => x_mv rfl) ?_
      refine w_index EI rfl (hX.le S26.le) rfl rfl Try.runUnderlying25 Try.sizeOf3 (by omega) (by first | assumption | exact List.getElem?_eq_getElem (by omega)) ?_
      intro b27 o28 hat29 row30
      refine w_x rfl (fun w1 h1 => x_load rfl (ld_cell Try.isAgg3 ((row30.le h1) 0 _ rfl))) ?_
      refine w_x rfl (fun w1 h1 => x_add rfl rfl (by omega)) ?_
      refine w_x rfl (fun w1 h1 => x_indexAddr_array rfl rfl Try.runUnderlying89 Try.sizeOf3 (by omega)) ?_
      refine w_nil ?_
      intro w31 hl32
      have S33 := S26.step hl32
      refine l_storeq S33 1 rfl rfl rfl rfl rfl Try.sizeOf3 (tabs_lt rfl (by omega)) (tabs_set rfl (by omega)) ?_
      intro w34 S35 hk36
      refine l_nil ?_
      have hb2 := ex_bd_take hV hx i a.src.toNat
      have hb3 : -5000000000 ≤ upf (ex (arcs.take i) (x.take i)) a.dst.toNat (ex (arcs.take i) (x.take i) a.dst.toNat + y) a.src.toNat ∧ upf (ex (arcs.take i) (x.take i)) a.dst.toNat (ex (arcs.take i) (x.take i) a.dst.toNat + y) a.src.toNat ≤ 5000000000 := by
        unfold upf; split <;> omega
      refine r_drawR 10 Try.mixed (by kernel_rfl) ?_
      refine w_x rfl (fun w1 h1 => x_fieldAddr rfl Try.runUnderlying39 rfl Try.sizeOf3 (by decide)) ?_
      refine w_x rfl (fun w1 h1 => x_load rfl (ld_blk ((S35.step h1).blk 2 rfl) Try.isAgg3 rfl)) ?_
      refine w_x rfl (fun w1 h1 => x_indexAddr_array rfl rfl Try.runUnderlying89 Try.sizeOf3 (by omega)) ?_
      refine w_x rfl (fun w1 h1 => x_load rfl (ld_blk ((S35.step h1).blk 1 rfl) Try.isAgg3 (tabs_get rfl (by omega)))) ?_
      refine w_x rfl (fun w1 h1 => x_mv rfl) ?_
      refine w_x rfl (fun w1 h1 => x_mv rfl) ?_
      refine w_index EI rfl (hX.le S35.le) rfl rfl Try.runUnderlying25 Try.sizeOf3 (by omega) (by first | assumption | exact List.getElem?_eq_getElem (by omega)) ?_
      intro b37 o38 hat39 row40
      refine w_x rfl (fun w1 h1 => x_load rfl (ld_cell Try.isAgg3 ((row40.le h1) 0 _ rfl))) ?_
      refine w_x rfl (fun w1 h1 => x_sub rfl rfl (by omega)) ?_
      refine w_x rfl (fun w1 h1 => x_indexAddr_array rfl rfl Try.runUnderlying89 Try.sizeOf3 (by omega)) ?_
      refine w_nil ?_
      intro w41 hl42
      have S43 := S35.step hl42
      refine l_storeq S43 1 rfl rfl rfl rfl rfl Try.sizeOf3 (tabs_lt rfl (by omega)) (tabs_set rfl (by omega)) ?_
      intro w44 S45 hk46
      refine l_nil ?_
      refine r_inBlock ?_
      refine r_region ?_
      refine l_x rfl (x_add rfl rfl (by omega)) ?_
      refine l_x rfl (x_mv rfl) ?_
      refine l_nil ?_
      exact IH (i + 1) _ _ (by omega) ⟨rfl, rfl, rfl, rfl, rfl, rfl, trivial⟩ ⟨by omega, hw', (by rw [← ex_step ha hy (by omega) (by omega) rfl]; exact S45.take 2)⟩
  · skip
    have hi : i = arcs.length := by omega
    subst hi
    rw [List.take_length, ← hx.len, List.take_length] at *
    refine r_exit rfl ?_
    refine r_seq ?_
    refine r_region ?_
    refine l_x rfl (x_load rfl (ld_blks (S1.blk 1 rfl) Try.isAgg89 Try.sizeOf89 tabs_all (tab_length ..))) ?_
    refine l_x rfl (x_buildz Try.zeroValue89 zcT Try.runUnderlying89 Try.sizeOf3) ?_
    refine l_x rfl (x_eqtab Try.underlying89 info3 cellsI Try.underlying3 Try.isAgg3 Try.eqGuardType89 rfl rfl) ?_
    refine l_x rfl (x_as rfl) ?_
    refine l_nil ?_
    refine r_ret (rs := [.tmp 4]) [_] Try.func68 rfl ⟨rfl, trivial⟩ ?_
    exact ⟨congrArg Value.bool (by rw [Flow.kept, hw, Bool.true_and]), S1.le⟩

end Go.Proofs

/-
  Contracts of functions of the program: each by symbolic execution of its text.
-/
namespace Go.Proofs
open Go Go.Vk Go.Vk.Flow

/-- couchant/flow.Kept$1. -/
theorem c_Kept1 (N : Int) (va : Value) (arcs : List Arc) (vx : Value) (x : List Int) (b0 b1 : Nat) (hmx : x.length ≤ 9223372036854775807) (w : World) (h0 : Blk w b0 [.int .i64 N, va] 24) (h1 : Blk w b1 [vx] 25)  (hA : Rd EA w va arcs) (Hx : Rd EI w vx x) :
    Cl Try.prog 66 #[.pointer (some ⟨b0, 0, none⟩), .pointer (some ⟨b1, 0, none⟩)] w fun v w' => v = .bool (row x arcs.length 0 1000000) ∧ Le w w' := by
  refine fn_of_run (args := [_, _]) 6 Try.func66 rfl rfl rfl fun cs => ?_
  have S := Own.start (X := nob) w
  refine r_seq ?_
  refine r_region ?_
  refine l_x rfl (x_as rfl) ?_
  refine l_nil ?_
  refine r_seq ?_
  refine r_region ?_
  refine l_x rfl (x_load rfl (ld_blks (h0.keep S.le id) Try.isAgg24 Try.sizeOf24 rfl rfl)) ?_
  refine l_x rfl (x_load rfl (ld_blk (h1.keep S.le id) Try.isAgg25 rfl)) ?_
  refine l_call [] [] [_, _] rfl rfl Try.call67 rfl (c_amounts N _ arcs _ _ (by omega) _ (hA.le S.le) (Hx.le S.le)) ?_
  rintro _ w1 ⟨rfl, hl3⟩
  have S2 := S.step hl3
  refine l_x rfl (x_as rfl) ?_
  refine l_nil ?_
  refine r_ret (rs := [.tmp 2]) [_] Try.func66 rfl ⟨rfl, trivial⟩ ?_
  exact ⟨congrArg Value.bool (by simp [*]), S2.le⟩

/-- couchant/flow.Kept. -/
theorem c_Kept (N : Int) (va : Value) (arcs : List Arc) (vx : Value) (x : List Int) (hmx : x.length ≤ 9223372036854775807) (w : World) (hA : Rd EA w va arcs) (Hx : Rd EI w vx x) :
    Cl Try.prog 21 #[.agg #[.int .i64 N, va], vx] w fun v w' => v = .tuple #[.bool (decide (askd N arcs (row x arcs.length 0 1000000) = 0) && Flow.kept 1000 arcs x), .int .i64 (askd N arcs (row x arcs.length 0 1000000))] ∧ Le w w' := by
  refine fn_of_run (args := [_, _]) 16 Try.func21 rfl rfl rfl fun cs => ?_
  have S := Own.start (X := nob) w
  refine r_seq ?_
  refine r_region ?_
  refine l_box S rfl rfl ?_
  intro b4 w1 S2 hl3
  refine l_box S2 rfl (Rd.cells (Hx.le S2.le)) ?_
  intro b8 w5 S6 hl7
  refine l_x rfl (x_as rfl) ?_
  refine l_x rfl (x_as rfl) ?_
  refine l_nil ?_
  refine r_seq ?_
  refine r_seq ?_
  refine r_region ?_
  refine l_x rfl (x_load rfl (ld_blks (S6.blk 0 rfl) Try.isAgg24 Try.sizeOf24 rfl rfl)) ?_
  refine l_x rfl (x_func rfl rfl) ?_
  refine l_call [] [] [_, _] rfl rfl Try.call62 rfl (c_asked N va arcs (row x arcs.length 0 1000000) 66 [_, _] _ (hA.le S6.le) Try.call66 (fun _ w1 h1 => c_Kept1 N va arcs vx x _ _ (by omega) w1 ((S6.blk 0 rfl).keep h1 id) ((S6.blk 1 rfl).keep h1 id) (hA.le (S6.le.trans h1)) (Hx.le (S6.le.trans h1)))) ?_
  rintro _ w9 ⟨rfl, hl11⟩
  have S10 := S6.step hl11
  refine l_x rfl (x_as rfl) ?_
  refine l_nil ?_
  refine r_seq ?_
  refine r_region ?_
  refine l_x rfl (x_mv rfl) ?_
  refine l_x rfl (x_neq rfl rfl) ?_
  refine l_nil ?_
  refine r_ifd rfl (fun hc11 => ?_) (fun hc11 => ?_)
  · skip
    refine r_seq ?_
    refine r_region ?_
    refine l_x rfl (x_mv rfl) ?_
    refine l_x rfl (x_as rfl) ?_
    refine l_x rfl (x_as rfl) ?_
    refine l_nil ?_
    refine r_ret (rs := [.tmp 4, .tmp 5]) [_, _] Try.func21 rfl ⟨rfl, rfl, trivial⟩ ?_
    exact ⟨by show Value.tuple #[.bool false, .int .i64 _] = _; simp [hc11], S10.le⟩
  · skip
    have h0 := Decidable.not_not.1 hc11
    obtain ⟨hV, hq⟩ := askd_zero.1 h0
    have hx := row_amts.1 hq
    refine r_skip ?_
    refine r_seq ?_
    refine r_region ?_
    refine l_x rfl (x_load rfl (ld_blks (S10.blk 0 rfl) Try.isAgg24 Try.sizeOf24 rfl rfl)) ?_
    refine l_x rfl (x_load rfl (ld_blk (S10.blk 1 rfl) Try.isAgg25 rfl)) ?_
    refine l_call [] [] [_, _] rfl rfl Try.call68 rfl (c_kept N va arcs _ _ hV hx _ (hA.le S10.le) (Hx.le S10.le)) ?_
    rintro _ w12 ⟨rfl, hl14⟩
    have S13 := S10.step hl14
    refine l_x rfl (x_as rfl) ?_
    refine l_x rfl (x_as rfl) ?_
    refine l_nil ?_
    refine r_ret (rs := [.tmp 4, .tmp 5]) [_, _] Try.func21 rfl ⟨rfl, rfl, trivial⟩ ?_
    exact ⟨by show Value.tuple #[.bool _, .int .i64 0] = _; simp [h0], S13.le⟩

/-- couchant/flow.sum. -/
theorem c_sum (arcs : List Arc) (N : Int) (vw : Value) (wl : List Int) (vx : Value) (x : List Int) (hV : Valid N arcs) (hw : Wts arcs wl) (hx : Amts arcs x) (w : World) (Hwl : Rd EI w vw wl) (Hx : Rd EI w vx x) :
    Cl Try.prog 72 #[vw, vx] w fun v w' => v = .int .i64 (dot wl x) ∧ Le w w' := by
  have hLx := hV.len
  have hxl := hx.len
  have hwl := hw.len
  refine fn_of_run (args := [_, _]) 25 Try.func72 rfl rfl rfl fun cs => ?_
  have S := Own.start (X := nob) w
  refine r_seq ?_
  refine r_region ?_
  refine l_x rfl (x_as rfl) ?_
  refine l_nil ?_
  refine r_seq ?_
  refine r_region ?_
  refine l_x rfl (x_as rfl) ?_
  refine l_nil ?_
  refine r_seq ?_
  refine r_seq ?_
  refine r_region ?_
  refine l_x rfl (x_mv rfl) ?_
  refine l_x rfl (x_len (Hwl.le S.le) rfl Try.runUnderlying25) ?_
  refine l_x rfl (x_mv rfl) ?_
  refine l_nil ?_
  refine r_block ?_
  refine r_loop (G := Nat) (fun i => wl.length - i) (fun i => [(0, vw), (1, vx), (9, .int .i64 i), (8, .int .i64 wl.length), (5, .int .i64 (dot (wl.take i) (x.take i)))]) (fun i w' => (i ≤ wl.length) ∧ Own nob w w' []) 0 ⟨rfl, rfl, rfl, rfl, (congrArg (Value.int .i64) (by simp [dot] : (0:Int) = dot (wl.take 0) (x.take 0))), trivial⟩ ⟨Nat.zero_le _, (S.take 0)⟩ ?_
  rintro i ρ w1 ⟨hi, S1⟩ IH
  refine r_seq ?_
  refine r_region ?_
  refine l_x rfl (x_lss rfl rfl) ?_
  refine l_nil ?_
  refine r_seq ?_
  refine r_ifd rfl (fun hc10 => ?_) (fun hc10 => ?_)
  · skip
    obtain ⟨a, ha⟩ : ∃ a, wl[i]? = some a := ⟨_, List.getElem?_eq_getElem (by omega)⟩
    obtain ⟨y, hy⟩ : ∃ y, x[i]? = some y := ⟨_, List.getElem?_eq_getElem (by omega)⟩
    have hb1 := mul_bd (hw.at ha) (hx.at hy) (by omega)
    have hb2 := dot_bd_take (by omega) hw.bd hx.bd i
    refine r_skip ?_
    refine r_seq ?_
    refine r_block ?_
    refine r_seq ?_
    refine r_region ?_
    refine l_x rfl (x_mv rfl) ?_
    refine l_x rfl (x_as rfl) ?_
    refine l_nil ?_
    refine r_drawR 12 Try.mixed (by kernel_rfl) ?_
    refine w_x rfl (fun w1 h1 => x_mv rfl) ?_
    refine w_x rfl (fun w1 h1 => x_mv rfl) ?_
    refine w_x rfl (fun w1 h1 => x_mv rfl) ?_
    refine w_index EI rfl (Hwl.le S1.le) rfl rfl Try.runUnderlying25 Try.sizeOf3 (by omega) (by first | assumption | exact List.getElem?_eq_getElem (by omega)) ?_
    intro b1 o2 hat3 row4
    refine w_x rfl (fun w1 h1 => x_load rfl (ld_cell Try.isAgg3 ((row4.le h1) 0 _ rfl))) ?_
    refine w_x rfl (fun w1 h1 => x_mv rfl) ?_
    refine w_x rfl (fun w1 h1 => x_mv rfl) ?_
    refine w_index EI rfl (Hx.le S1.le) rfl rfl Try.runUnderlying25 Try.sizeOf3 (by omega) (by first | assumption | exact List.getElem?_eq_getElem (by omega)) ?_
    intro b5 o6 hat7 row8
    refine w_x rfl (fun w1 h1 => x_load rfl (ld_cell Try.isAgg3 ((row8.le h1) 0 _ rfl))) ?_
    refine w_x rfl (fun w1 h1 => x_mul rfl rfl (by omega)) ?_
    refine w_x rfl (fun w1 h1 => x_add rfl rfl (by omega)) ?_
    refine w_x rfl (fun w1 h1 => x_as rfl) ?_
    refine w_nil ?_
    intro w9 hl10
    have S11 := S1.step hl10
    refine l_nil ?_
    refine r_inBlock ?_
    refine r_region ?_
    refine l_x rfl (x_add rfl rfl (by omega)) ?_
    refine l_x rfl (x_mv rfl) ?_
    refine l_nil ?_
    exact IH (i + 1) _ _ (by omega) ⟨rfl, rfl, rfl, rfl, (congrArg (Value.int .i64) (dot_take ha hy).symm), trivial⟩ ⟨by omega, (S11.take 0)⟩
  · skip
    have hi : i = wl.length := by omega
    subst hi
    refine r_exit rfl ?_
    refine r_seq ?_
    refine r_region ?_
    refine l_x rfl (x_mv rfl) ?_
    refine l_x rfl (x_as rfl) ?_
    refine l_nil ?_
    refine r_ret (rs := [.tmp 4]) [_] Try.func72 rfl ⟨rfl, trivial⟩ ?_
    exact ⟨congrArg (Value.int .i64) (by rw [List.take_length, List.take_of_length_le (by omega)]), S1.le⟩

/-- couchant/flow.Sum$1. -/
theorem c_Sum1 (N : Int) (va : Value) (arcs : List Arc) (vw : Value) (wl : List Int) (vx : Value) (x : List Int) (b0 b1 b2 : Nat) (hmwl : wl.length ≤ 9223372036854775807) (hmx : x.length ≤ 9223372036854775807) (w : World) (h0 : Blk w b0 [.int .i64 N, va] 24) (h1 : Blk w b1 [vw] 25) (h2 : Blk w b2 [vx] 25)  (hA : Rd EA w va arcs) (Hwl : Rd EI w vw wl) (Hx : Rd EI w vx x) :
    Cl Try.prog 87 #[.pointer (some ⟨b0, 0, none⟩), .pointer (some ⟨b1, 0, none⟩), .pointer (some ⟨b2, 0, none⟩)] w fun v w' => v = .bool (row wl arcs.length (-1000) 1000 && row x arcs.length 0 1000000) ∧ Le w w' := by
  refine fn_of_run (args := [_, _, _]) 12 Try.func87 rfl rfl rfl fun cs => ?_
  have S := Own.start (X := nob) w
  refine r_seq ?_
  refine r_region ?_
  refine l_x rfl (x_as rfl) ?_
  refine l_nil ?_
  refine r_seq ?_
  refine r_region ?_
  refine l_x rfl (x_load rfl (ld_blks (h0.keep S.le id) Try.isAgg24 Try.sizeOf24 rfl rfl)) ?_
  refine l_x rfl (x_load rfl (ld_blk (h1.keep S.le id) Try.isAgg25 rfl)) ?_
  refine l_call [] [] [_, _] rfl rfl Try.call70 rfl (c_weights N _ arcs _ _ (by omega) _ (hA.le S.le) (Hwl.le S.le)) ?_
  rintro _ w1 ⟨rfl, hl3⟩
  have S2 := S.step hl3
  refine l_x rfl (x_mv rfl) ?_
  refine l_split (d := 7) rfl (fun hg7 => ?_) (fun hg7 => ?_)
  · skip
    refine l_x rfl (x_load rfl (ld_blks (h0.keep S2.le id) Try.isAgg24 Try.sizeOf24 rfl rfl)) ?_
    refine l_x rfl (x_load rfl (ld_blk (h2.keep S2.le id) Try.isAgg25 rfl)) ?_
    refine l_call [] [] [_, _] rfl rfl Try.call67 rfl (c_amounts N _ arcs _ _ (by omega) _ (hA.le S2.le) (Hx.le S2.le)) ?_
    rintro _ w4 ⟨rfl, hl6⟩
    have S5 := S2.step hl6
    refine l_x rfl (x_pick_t rfl rfl) ?_
    refine l_x rfl (x_as rfl) ?_
    refine l_nil ?_
    refine r_ret (rs := [.tmp 3]) [_] Try.func87 rfl ⟨rfl, trivial⟩ ?_
    exact ⟨congrArg Value.bool (by simp [*]), S5.le⟩
  · skip
    refine l_pass rfl ?_
    refine l_pass rfl ?_
    refine l_pass rfl ?_
    refine l_x rfl (x_pick_f rfl rfl) ?_
    refine l_x rfl (x_as rfl) ?_
    refine l_nil ?_
    refine r_ret (rs := [.tmp 3]) [_] Try.func87 rfl ⟨rfl, trivial⟩ ?_
    exact ⟨congrArg Value.bool (by simp [*]), S2.le⟩

/-- couchant/flow.Sum. -/
theorem c_Sum (N : Int) (va : Value) (arcs : List Arc) (vw : Value) (wl : List Int) (vx : Value) (x : List Int) (hmwl : wl.length ≤ 9223372036854775807) (hmx : x.length ≤ 9223372036854775807) (w : World) (hA : Rd EA w va arcs) (Hwl : Rd EI w vw wl) (Hx : Rd EI w vx x) :
    Cl Try.prog 32 #[.agg #[.int .i64 N, va], vw, vx] w fun v w' => v = .tuple #[.int .i64 (if askd N arcs (row wl arcs.length (-1000) 1000 && row x arcs.length 0 1000000) = 0 then dot wl x else 0), .int .i64 (askd N arcs (row wl arcs.length (-1000) 1000 && row x arcs.length 0 1000000))] ∧ Le w w' := by
  refine fn_of_run (args := [_, _, _]) 18 Try.func32 rfl rfl rfl fun cs => ?_
  have S := Own.start (X := nob) w
  refine r_seq ?_
  refine r_region ?_
  refine l_box S rfl rfl ?_
  intro b4 w1 S2 hl3
  refine l_box S2 rfl (Rd.cells (Hwl.le S2.le)) ?_
  intro b8 w5 S6 hl7
  refine l_box S6 rfl (Rd.cells (Hx.le S6.le)) ?_
  intro b12 w9 S10 hl11
  refine l_x rfl (x_as rfl) ?_
  refine l_x rfl (x_as rfl) ?_
  refine l_nil ?_
  refine r_seq ?_
  refine r_seq ?_
  refine r_region ?_
  refine l_x rfl (x_load rfl (ld_blks (S10.blk 0 rfl) Try.isAgg24 Try.sizeOf24 rfl rfl)) ?_
  refine l_x rfl (x_func rfl rfl) ?_
  refine l_call [] [] [_, _] rfl rfl Try.call62 rfl (c_asked N va arcs (row wl arcs.length (-1000) 1000 && row x arcs.length 0 1000000) 87 [_, _, _] _ (hA.le S10.le) Try.call87 (fun _ w1 h1 => c_Sum1 N va arcs vw wl vx x _ _ _ (by omega) (by omega) w1 ((S10.blk 0 rfl).keep h1 id) ((S10.blk 1 rfl).keep h1 id) ((S10.blk 2 rfl).keep h1 id) (hA.le (S10.le.trans h1)) (Hwl.le (S10.le.trans h1)) (Hx.le (S10.le.trans h1)))) ?_
  rintro _ w13 ⟨rfl, hl15⟩
  have S14 := S10.step hl15
  refine l_x rfl (x_as rfl) ?_
  refine l_nil ?_
  refine r_seq ?_
  refine r_region ?_
  refine l_x rfl (x_mv rfl) ?_
  refine l_x rfl (x_neq rfl rfl) ?_
  refine l_nil ?_
  refine r_ifd rfl (fun hc13 => ?_) (fun hc13 => ?_)
  · skip
    refine r_seq ?_
    refine r_region ?_
    refine l_x rfl (x_mv rfl) ?_
    refine l_x rfl (x_as rfl) ?_
    refine l_x rfl (x_as rfl) ?_
    refine l_nil ?_
    refine r_ret (rs := [.tmp 6, .tmp 7]) [_, _] Try.func32 rfl ⟨rfl, rfl, trivial⟩ ?_
    exact ⟨by show Value.tuple #[.int .i64 0, .int .i64 _] = _; simp [hc13], S14.le⟩
  · skip
    have h0 := Decidable.not_not.1 hc13
    obtain ⟨hV, hq⟩ := askd_zero.1 h0
    rw [Bool.and_eq_true] at hq
    have hw := row_wts.1 hq.1
    have hx := row_amts.1 hq.2
    refine r_skip ?_
    refine r_seq ?_
    refine r_region ?_
    refine l_x rfl (x_load rfl (ld_blk (S14.blk 1 rfl) Try.isAgg25 rfl)) ?_
    refine l_x rfl (x_load rfl (ld_blk (S14.blk 2 rfl) Try.isAgg25 rfl)) ?_
    refine l_call [] [] [_, _] rfl rfl Try.call72 rfl (c_sum arcs N _ _ _ _ hV hw hx _ (Hwl.le S14.le) (Hx.le S14.le)) ?_
    rintro _ w16 ⟨rfl, hl18⟩
    have S17 := S14.step hl18
    refine l_x rfl (x_as rfl) ?_
    refine l_x rfl (x_as rfl) ?_
    refine l_nil ?_
    refine r_ret (rs := [.tmp 6, .tmp 7]) [_, _] Try.func32 rfl ⟨rfl, rfl, trivial⟩ ?_
    exact ⟨by show Value.tuple #[.int .i64 _, .int .i64 0] = _; simp [h0], S17.le⟩

end Go.Proofs

/-
  Contracts of functions of the program: each by symbolic execution of its text.
-/
namespace Go.Proofs
open Go Go.Vk Go.Vk.Flow

/-- couchant/flow.bound. -/
theorem c_bound (N : Int) (va : Value) (arcs : List Arc) (vw : Value) (wl : List Int) (vp : Value) (p : List Int) (kf : Nat) (caps : List Value) (R : List (Arc × Bool) → Rsc → Prop) (w0 : World) (hV : Valid N arcs) (hw : Wts arcs wl) (hp : Pts N p)
    (he : ∀ args w, (callFunc kf args).run Try.prog w = .ok (.enter kf args) w)
    (ht : ∀ t r a h w1, R t r → a ∈ arcs → t.length < 4000 → Own r.fp w1 w1 [r] → Cl Try.prog kf ([Value.agg a.enc.toArray, Value.bool h] ++ caps).toArray w1 fun _ w2 => ∃ r', R (t ++ [(a, h)]) r' ∧ Own r.fp w1 w2 [r'])
    (hA : Rd EA w0 va arcs) (Hwl : Rd EI w0 vw wl) (Hp : Rd EI w0 vp p) (r : Rsc) (hr : R [] r) (w : World) (S : Own r.fp w w [r]) (h0 : Le w0 w) (hX : ∀ b, r.fp b → w0.heap.size ≤ b) :
    Cl Try.prog 90 #[.agg #[.int .i64 N, va], vw, vp, .func (.func kf) #[] caps.toArray] w fun v w' => v = .int .i64 (bnd p arcs wl) ∧ ∃ r', R (told p arcs wl) r' ∧ Own r.fp w w' [r'] := by
  have hLx := hV.len
  have hNx := hV.max
  have hwl := hw.len
  have hpl := hp.len
  refine fn_of_run (args := [_, _, _, _]) 63 Try.func90 rfl rfl rfl fun cs => ?_
  refine r_seq ?_
  refine r_region ?_
  refine l_box S rfl rfl ?_
  intro b4 w1 S2 hl3
  refine l_x rfl (x_as rfl) ?_
  refine l_nil ?_
  refine r_seq ?_
  refine r_region ?_
  refine l_x rfl (x_as rfl) ?_
  refine l_nil ?_
  refine r_seq ?_
  refine r_seq ?_
  refine r_region ?_
  refine l_x rfl (x_fieldAddr rfl Try.runUnderlying24 rfl Try.sizeOf22 (by decide)) ?_
  refine l_x rfl (x_load rfl (ld_blk (S2.blk 1 rfl) Try.isAgg22 rfl)) ?_
  refine l_x rfl (x_len (hA.le (S2.old h0 hX)) rfl Try.runUnderlying22) ?_
  refine l_x rfl (x_mv rfl) ?_
  refine l_nil ?_
  refine r_block ?_
  refine r_loop (G := Nat × Rsc) (fun ⟨i, r1⟩ => arcs.length - i) (fun ⟨i, r1⟩ => [(1, vw), (2, vp), (3, .func (.func kf) #[] caps.toArray), (14, va), (16, .int .i64 i), (15, .int .i64 arcs.length), (9, .int .i64 (bnd p (arcs.take i) (wl.take i)))]) (fun ⟨i, r1⟩ w' => (i ≤ arcs.length) ∧ (R (told p (arcs.take i) (wl.take i)) r1) ∧ Own r.fp w w' [r1]) (0, r) ⟨rfl, rfl, rfl, rfl, rfl, rfl, (congrArg (Value.int .i64) (by simp [bnd] : (0:Int) = bnd p (arcs.take 0) (wl.take 0))), trivial⟩ ⟨Nat.zero_le _, by simpa [told] using hr, (S2.take 1)⟩ ?_
  rintro ⟨i, r1⟩ ρ w1 ⟨hi, hR, S1⟩ IH
  refine r_seq ?_
  refine r_region ?_
  refine l_x rfl (x_lss rfl rfl) ?_
  refine l_nil ?_
  refine r_seq ?_
  refine r_ifd rfl (fun hc17 => ?_) (fun hc17 => ?_)
  · skip
    obtain ⟨a, ha⟩ : ∃ a, arcs[i]? = some a := ⟨_, List.getElem?_eq_getElem (by omega)⟩
    obtain ⟨y, hy⟩ : ∃ y, wl[i]? = some y := ⟨_, List.getElem?_eq_getElem (by omega)⟩
    have hok := hV.at ha
    have hyb := hw.at hy
    have hp1 := hp.at a.src.toNat
    have hp2 := hp.at a.dst.toNat
    have hrb := rst_bd hp hyb (a := a)
    have hpb := part_bd rfl hrb (by omega) (by omega)
    have hbb := bnd_bd_take hV hw hp i
    refine r_skip ?_
    refine r_seq ?_
    refine r_block ?_
    refine r_seq ?_
    refine r_region ?_
    refine l_x rfl (x_mv rfl) ?_
    refine l_index EA rfl (hA.le (S1.old h0 hX)) rfl rfl Try.runUnderlying22 Try.sizeOf39 (by omega) (by first | assumption | exact List.getElem?_eq_getElem (by omega)) ?_
    intro b5 o6 hat7 row8
    refine l_x rfl (x_load rfl (ld_row Try.isAgg39 Try.sizeOf39 rfl row8)) ?_
    refine l_alloc S1 rfl Try.zeroValue39 rfl ?_
    intro b12 w9 S10 hl11
    refine l_x rfl (x_as rfl) ?_
    refine l_stores S10 1 rfl rfl rfl rfl (EA.one _) Try.sizeOf39 (by first | exact Nat.le_refl _ | simp) (splice_all rfl) ?_
    intro w13 S14 hk15
    refine l_nil ?_
    refine r_seq ?_
    refine r_drawR 17 Try.mixed (by kernel_rfl) ?_
    refine w_x rfl (fun w1 h1 => x_mv rfl) ?_
    refine w_x rfl (fun w1 h1 => x_mv rfl) ?_
    refine w_index EI rfl (Hwl.le (S14.old h0 hX)) rfl rfl Try.runUnderlying25 Try.sizeOf3 (by omega) (by first | assumption | exact List.getElem?_eq_getElem (by omega)) ?_
    intro b16 o17 hat18 row19
    refine w_x rfl (fun w1 h1 => x_load rfl (ld_cell Try.isAgg3 ((row19.le h1) 0 _ rfl))) ?_
    refine w_x rfl (fun w1 h1 => x_mv rfl) ?_
    refine w_x rfl (fun w1 h1 => x_fieldAddr rfl Try.runUnderlying39 rfl Try.sizeOf3 (by decide)) ?_
    refine w_x rfl (fun w1 h1 => x_load rfl (ld_blk ((S14.step h1).blk 1 rfl) Try.isAgg3 rfl)) ?_
    refine w_index EI rfl (Hp.le (S14.old h0 hX)) rfl rfl Try.runUnderlying25 Try.sizeOf3 (by omega) (nth_get (by omega)) ?_
    intro b20 o21 hat22 row23
    refine w_x rfl (fun w1 h1 => x_load rfl (ld_cell Try.isAgg3 ((row23.le h1) 0 _ rfl))) ?_
    refine w_x rfl (fun w1 h1 => x_add rfl rfl (by omega)) ?_
    refine w_x rfl (fun w1 h1 => x_mv rfl) ?_
    refine w_x rfl (fun w1 h1 => x_fieldAddr rfl Try.runUnderlying39 rfl Try.sizeOf3 (by decide)) ?_
    refine w_x rfl (fun w1 h1 => x_load rfl (ld_blk ((S14.step h1).blk 1 rfl) Try.isAgg3 rfl)) ?_
    refine w_index EI rfl (Hp.le (S14.old h0 hX)) rfl rfl Try.runUnderlying25 Try.sizeOf3 (by omega) (nth_get (by omega)) ?_
    intro b24 o25 hat26 row27
    refine w_x rfl (fun w1 h1 => x_load rfl (ld_cell Try.isAgg3 ((row27.le h1) 0 _ rfl))) ?_
    refine w_x rfl (fun w1 h1 => x_sub rfl rfl (by omega)) ?_
    refine w_x rfl (fun w1 h1 => x_as rfl) ?_
    refine w_nil ?_
    intro w28 hl29
    have S30 := S14.step hl29
    refine l_nil ?_
    refine r_block ?_
    refine r_seq ?_
    refine r_slot 12 (.int .i64 (rst p a y)) rfl ?_
    refine r_region ?_
    refine l_x rfl (x_mv rfl) ?_
    refine l_x rfl (x_gtr rfl rfl) ?_
    refine l_x rfl (x_as rfl) ?_
    refine l_nil ?_
    refine r_ifd rfl (fun hc37 => ?_) (fun hc37 => ?_)
    · skip
      refine r_seq ?_
      refine r_region ?_
      refine l_x rfl (x_mv rfl) ?_
      refine l_x rfl (x_mv rfl) ?_
      refine l_x rfl (x_fieldAddr rfl Try.runUnderlying39 rfl Try.sizeOf3 (by decide)) ?_
      refine l_x rfl (x_load rfl (ld_blk (S30.blk 1 rfl) Try.isAgg3 rfl)) ?_
      refine l_x rfl (x_mul rfl rfl (by omega)) ?_
      refine l_x rfl (x_add rfl rfl (by omega)) ?_
      refine l_x rfl (x_as rfl) ?_
      refine l_nil ?_
      refine r_region ?_
      refine l_x rfl (x_mv rfl) ?_
      refine l_x rfl (x_load rfl (ld_blks (S30.blk 1 rfl) Try.isAgg39 Try.sizeOf39 rfl rfl)) ?_
      refine l_call [] caps ([_, _] ++ caps) rfl rfl he rfl (ht (told p (arcs.take i) (wl.take i)) r1 a true _ hR (List.mem_of_getElem? ha) (by have := told_len (p := p) (arcs.take i) (wl.take i); rw [List.length_take] at this; omega) (S30.lend 0 rfl)) ?_
      rintro _ w31 ⟨r34, hRr34, hback32⟩
      have S33 := S30.back 0 rfl hback32
      refine l_nil ?_
      refine r_inBlock ?_
      refine r_inBlock ?_
      refine r_region ?_
      refine l_x rfl (x_add rfl rfl (by omega)) ?_
      refine l_x rfl (x_mv rfl) ?_
      refine l_nil ?_
      exact IH (i + 1, r34) _ _ (by dsimp only; omega) ⟨rfl, rfl, rfl, rfl, rfl, rfl, (congrArg (Value.int .i64) (by rw [bnd_take ha hy, part_pos hc37])), trivial⟩ ⟨by omega, by rw [told_take ha hy, told1_pos hc37]; exact hRr34, (S33.take 1)⟩
    · skip
      refine r_seq ?_
      refine r_region ?_
      refine l_x rfl (x_mv rfl) ?_
      refine l_x rfl (x_lss rfl rfl) ?_
      refine l_x rfl (x_as rfl) ?_
      refine l_nil ?_
      refine r_ifd rfl (fun hc49 => ?_) (fun hc49 => ?_)
      · skip
        refine r_seq ?_
        refine r_region ?_
        refine l_x rfl (x_mv rfl) ?_
        refine l_x rfl (x_mv rfl) ?_
        refine l_x rfl (x_fieldAddr rfl Try.runUnderlying39 rfl Try.sizeOf3 (by decide)) ?_
        refine l_x rfl (x_load rfl (ld_blk (S30.blk 1 rfl) Try.isAgg3 rfl)) ?_
        refine l_x rfl (x_mul rfl rfl (by omega)) ?_
        refine l_x rfl (x_add rfl rfl (by omega)) ?_
        refine l_x rfl (x_as rfl) ?_
        refine l_nil ?_
        refine r_region ?_
        refine l_x rfl (x_mv rfl) ?_
        refine l_x rfl (x_load rfl (ld_blks (S30.blk 1 rfl) Try.isAgg39 Try.sizeOf39 rfl rfl)) ?_
        refine l_call [] caps ([_, _] ++ caps) rfl rfl he rfl (ht (told p (arcs.take i) (wl.take i)) r1 a false _ hR (List.mem_of_getElem? ha) (by have := told_len (p := p) (arcs.take i) (wl.take i); rw [List.length_take] at this; omega) (S30.lend 0 rfl)) ?_
        rintro _ w35 ⟨r38, hRr38, hback36⟩
        have S37 := S30.back 0 rfl hback36
        refine l_nil ?_
        refine r_inBlock ?_
        refine r_inBlock ?_
        refine r_region ?_
        refine l_x rfl (x_add rfl rfl (by omega)) ?_
        refine l_x rfl (x_mv rfl) ?_
        refine l_nil ?_
        exact IH (i + 1, r38) _ _ (by dsimp only; omega) ⟨rfl, rfl, rfl, rfl, rfl, rfl, (congrArg (Value.int .i64) (by rw [bnd_take ha hy, part_neg hc49])), trivial⟩ ⟨by omega, by rw [told_take ha hy, told1_neg hc49]; exact hRr38, (S37.take 1)⟩
      · skip
        refine r_skip ?_
        refine r_inBlock ?_
        refine r_inBlock ?_
        refine r_region ?_
        refine l_x rfl (x_add rfl rfl (by omega)) ?_
        refine l_x rfl (x_mv rfl) ?_
        refine l_nil ?_
        exact IH (i + 1, r1) _ _ (by dsimp only; omega) ⟨rfl, rfl, rfl, rfl, rfl, rfl, (congrArg (Value.int .i64) (by rw [bnd_take ha hy, part_zero hc37 hc49, Int.add_zero])), trivial⟩ ⟨by omega, by rw [told_take ha hy, told1_zero hc37 hc49, List.append_nil]; exact hR, (S30.take 1)⟩
  · skip
    have hi : i = arcs.length := by omega
    subst hi
    rw [List.take_length, List.take_of_length_le (by omega)] at hR
    refine r_exit rfl ?_
    refine r_seq ?_
    refine r_region ?_
    refine l_x rfl (x_mv rfl) ?_
    refine l_x rfl (x_as rfl) ?_
    refine l_nil ?_
    refine r_ret (rs := [.tmp 8]) [_] Try.func90 rfl ⟨rfl, trivial⟩ ?_
    exact ⟨congrArg (Value.int .i64) (by rw [List.take_length, List.take_of_length_le (by omega)]), _, hR, S1.take 1⟩

/-- The bound, with nothing told. -/
theorem c_bound0 (N : Int) (va : Value) (arcs : List Arc) (vw : Value) (wl : List Int) (vp : Value) (p : List Int) (kf : Nat) (hV : Valid N arcs) (hw : Wts arcs wl) (hp : Pts N p)
    (he : ∀ args w, (callFunc kf args).run Try.prog w = .ok (.enter kf args) w)
    (ht : ∀ a h w1, Cl Try.prog kf #[Value.agg (Arc.enc a).toArray, Value.bool h] w1 fun _ w2 => Le w1 w2) (w : World) (hA : Rd EA w va arcs) (Hwl : Rd EI w vw wl) (Hp : Rd EI w vp p) :
    Cl Try.prog 90 #[.agg #[.int .i64 N, va], vw, vp, .func (.func kf) #[] #[]] w fun v w' => v = .int .i64 (bnd p arcs wl) ∧ Le w w' :=
  (c_bound N va arcs vw wl vp p kf [] (fun _ r => r = nilR) w hV hw hp he
    (fun _ r a h w1 hr _ _ hS => by subst hr; exact (ht a h w1).mono fun _ _ hl => ⟨_, rfl, hS.step hl⟩) hA Hwl Hp nilR rfl w (Own.nilR w) (Le.refl w) fun _ h => h.elim).mono
    fun _ _ ⟨h1, _, hr, h2⟩ => ⟨h1, by subst hr; exact h2.keep⟩

/-- couchant/flow.Bound$2. -/
theorem c_Bound2 (a : Arc) (h : Bool) (w : World) :
    Cl Try.prog 91 #[Value.agg (Arc.enc a).toArray, Value.bool h] w fun _ w' => Le w w' := by
  refine fn_of_run (args := [_, _]) 4 Try.func91 rfl rfl rfl fun cs => ?_
  have S := Own.start (X := nob) w
  refine r_region ?_
  refine l_box S rfl rfl ?_
  intro b4 w1 S2 hl3
  refine l_nil ?_
  refine r_end (rs := []) [] Try.func91 rfl trivial ?_
  exact S2.le

/-- couchant/flow.Bound$1. -/
theorem c_Bound1 (N : Int) (va : Value) (arcs : List Arc) (vw : Value) (wl : List Int) (vp : Value) (p : List Int) (b0 b1 b2 : Nat) (hmwl : wl.length ≤ 9223372036854775807) (hmp : p.length ≤ 9223372036854775807) (w : World) (h0 : Blk w b0 [.int .i64 N, va] 24) (h1 : Blk w b1 [vw] 25) (h2 : Blk w b2 [vp] 25)  (hA : Rd EA w va arcs) (Hwl : Rd EI w vw wl) (Hp : Rd EI w vp p) :
    Cl Try.prog 88 #[.pointer (some ⟨b0, 0, none⟩), .pointer (some ⟨b1, 0, none⟩), .pointer (some ⟨b2, 0, none⟩)] w fun v w' => v = .bool (row wl arcs.length (-1000) 1000 && row p N (-10000000) 10000000) ∧ Le w w' := by
  refine fn_of_run (args := [_, _, _]) 12 Try.func88 rfl rfl rfl fun cs => ?_
  have S := Own.start (X := nob) w
  refine r_seq ?_
  refine r_region ?_
  refine l_x rfl (x_as rfl) ?_
  refine l_nil ?_
  refine r_seq ?_
  refine r_region ?_
  refine l_x rfl (x_load rfl (ld_blks (h0.keep S.le id) Try.isAgg24 Try.sizeOf24 rfl rfl)) ?_
  refine l_x rfl (x_load rfl (ld_blk (h1.keep S.le id) Try.isAgg25 rfl)) ?_
  refine l_call [] [] [_, _] rfl rfl Try.call70 rfl (c_weights N _ arcs _ _ (by omega) _ (hA.le S.le) (Hwl.le S.le)) ?_
  rintro _ w1 ⟨rfl, hl3⟩
  have S2 := S.step hl3
  refine l_x rfl (x_mv rfl) ?_
  refine l_split (d := 7) rfl (fun hg7 => ?_) (fun hg7 => ?_)
  · skip
    refine l_x rfl (x_load rfl (ld_blks (h0.keep S2.le id) Try.isAgg24 Try.sizeOf24 rfl rfl)) ?_
    refine l_x rfl (x_load rfl (ld_blk (h2.keep S2.le id) Try.isAgg25 rfl)) ?_
    refine l_call [] [] [_, _] rfl rfl Try.call89 rfl (c_potentials N _ _ _ (by omega) _ (Hp.le S2.le)) ?_
    rintro _ w4 ⟨rfl, hl6⟩
    have S5 := S2.step hl6
    refine l_x rfl (x_pick_t rfl rfl) ?_
    refine l_x rfl (x_as rfl) ?_
    refine l_nil ?_
    refine r_ret (rs := [.tmp 3]) [_] Try.func88 rfl ⟨rfl, trivial⟩ ?_
    exact ⟨congrArg Value.bool (by simp [*]), S5.le⟩
  · skip
    refine l_pass rfl ?_
    refine l_pass rfl ?_
    refine l_pass rfl ?_
    refine l_x rfl (x_pick_f rfl rfl) ?_
    refine l_x rfl (x_as rfl) ?_
    refine l_nil ?_
    refine r_ret (rs := [.tmp 3]) [_] Try.func88 rfl ⟨rfl, trivial⟩ ?_
    exact ⟨congrArg Value.bool (by simp [*]), S2.le⟩

/-- couchant/flow.Bound. -/
theorem c_Bound (N : Int) (va : Value) (arcs : List Arc) (vw : Value) (wl : List Int) (vp : Value) (p : List Int) (hmwl : wl.length ≤ 9223372036854775807) (hmp : p.length ≤ 9223372036854775807) (w : World) (hA : Rd EA w va arcs) (Hwl : Rd EI w vw wl) (Hp : Rd EI w vp p) :
    Cl Try.prog 34 #[.agg #[.int .i64 N, va], vw, vp] w fun v w' => v = .tuple #[.int .i64 (if askd N arcs (row wl arcs.length (-1000) 1000 && row p N (-10000000) 10000000) = 0 then bnd p arcs wl else 0), .int .i64 (askd N arcs (row wl arcs.length (-1000) 1000 && row p N (-10000000) 10000000))] ∧ Le w w' := by
  refine fn_of_run (args := [_, _, _]) 19 Try.func34 rfl rfl rfl fun cs => ?_
  have S := Own.start (X := nob) w
  refine r_seq ?_
  refine r_region ?_
  refine l_box S rfl rfl ?_
  intro b4 w1 S2 hl3
  refine l_box S2 rfl (Rd.cells (Hwl.le S2.le)) ?_
  intro b8 w5 S6 hl7
  refine l_box S6 rfl (Rd.cells (Hp.le S6.le)) ?_
  intro b12 w9 S10 hl11
  refine l_x rfl (x_as rfl) ?_
  refine l_x rfl (x_as rfl) ?_
  refine l_nil ?_
  refine r_seq ?_
  refine r_seq ?_
  refine r_region ?_
  refine l_x rfl (x_load rfl (ld_blks (S10.blk 0 rfl) Try.isAgg24 Try.sizeOf24 rfl rfl)) ?_
  refine l_x rfl (x_func rfl rfl) ?_
  refine l_call [] [] [_, _] rfl rfl Try.call62 rfl (c_asked N va arcs (row wl arcs.length (-1000) 1000 && row p N (-10000000) 10000000) 88 [_, _, _] _ (hA.le S10.le) Try.call88 (fun _ w1 h1 => c_Bound1 N va arcs vw wl vp p _ _ _ (by omega) (by omega) w1 ((S10.blk 0 rfl).keep h1 id) ((S10.blk 1 rfl).keep h1 id) ((S10.blk 2 rfl).keep h1 id) (hA.le (S10.le.trans h1)) (Hwl.le (S10.le.trans h1)) (Hp.le (S10.le.trans h1)))) ?_
  rintro _ w13 ⟨rfl, hl15⟩
  have S14 := S10.step hl15
  refine l_x rfl (x_as rfl) ?_
  refine l_nil ?_
  refine r_seq ?_
  refine r_region ?_
  refine l_x rfl (x_mv rfl) ?_
  refine l_x rfl (x_neq rfl rfl) ?_
  refine l_nil ?_
  refine r_ifd rfl (fun hc13 => ?_) (fun hc13 => ?_)
  · skip
    refine r_seq ?_
    refine r_region ?_
    refine l_x rfl (x_mv rfl) ?_
    refine l_x rfl (x_as rfl) ?_
    refine l_x rfl (x_as rfl) ?_
    refine l_nil ?_
    refine r_ret (rs := [.tmp 6, .tmp 7]) [_, _] Try.func34 rfl ⟨rfl, rfl, trivial⟩ ?_
    exact ⟨by show Value.tuple #[.int .i64 0, .int .i64 _] = _; simp [hc13], S14.le⟩
  · skip
    have h0 := Decidable.not_not.1 hc13
    obtain ⟨hV, hq⟩ := askd_zero.1 h0
    rw [Bool.and_eq_true] at hq
    have hw := row_wts.1 hq.1
    have hp := row_pts.1 hq.2
    refine r_skip ?_
    refine r_seq ?_
    refine r_region ?_
    refine l_x rfl (x_load rfl (ld_blks (S14.blk 0 rfl) Try.isAgg24 Try.sizeOf24 rfl rfl)) ?_
    refine l_x rfl (x_load rfl (ld_blk (S14.blk 1 rfl) Try.isAgg25 rfl)) ?_
    refine l_x rfl (x_load rfl (ld_blk (S14.blk 2 rfl) Try.isAgg25 rfl)) ?_
    refine l_call [] [] [_, _, _, _] rfl rfl Try.call90 rfl (c_bound0 N va arcs _ _ _ _ 91 hV hw hp Try.call91 c_Bound2 _ (hA.le S14.le) (Hwl.le S14.le) (Hp.le S14.le)) ?_
    rintro _ w16 ⟨rfl, hl18⟩
    have S17 := S14.step hl18
    refine l_x rfl (x_as rfl) ?_
    refine l_x rfl (x_as rfl) ?_
    refine l_nil ?_
    refine r_ret (rs := [.tmp 6, .tmp 7]) [_, _] Try.func34 rfl ⟨rfl, rfl, trivial⟩ ?_
    exact ⟨by show Value.tuple #[.int .i64 _, .int .i64 0] = _; simp [h0], S17.le⟩

/-- couchant/flow.CheckBest$2. -/
theorem c_CheckBest2 (a : Arc) (h : Bool) (w : World) :
    Cl Try.prog 97 #[Value.agg (Arc.enc a).toArray, Value.bool h] w fun _ w' => Le w w' := by
  refine fn_of_run (args := [_, _]) 4 Try.func97 rfl rfl rfl fun cs => ?_
  have S := Own.start (X := nob) w
  refine r_region ?_
  refine l_box S rfl rfl ?_
  intro b4 w1 S2 hl3
  refine l_nil ?_
  refine r_end (rs := []) [] Try.func97 rfl trivial ?_
  exact S2.le

/-- couchant/flow.CheckBest$1. -/
theorem c_CheckBest1 (N : Int) (va : Value) (arcs : List Arc) (vw : Value) (wl : List Int) (vx : Value) (x : List Int) (vp : Value) (p : List Int) (b0 b1 b2 b3 : Nat) (hmwl : wl.length ≤ 9223372036854775807) (hmx : x.length ≤ 9223372036854775807) (hmp : p.length ≤ 9223372036854775807) (w : World) (h0 : Blk w b0 [.int .i64 N, va] 24) (h1 : Blk w b1 [vw] 25) (h2 : Blk w b2 [vx] 25) (h3 : Blk w b3 [vp] 25)  (hA : Rd EA w va arcs) (Hwl : Rd EI w vw wl) (Hx : Rd EI w vx x) (Hp : Rd EI w vp p) :
    Cl Try.prog 96 #[.pointer (some ⟨b0, 0, none⟩), .pointer (some ⟨b1, 0, none⟩), .pointer (some ⟨b2, 0, none⟩), .pointer (some ⟨b3, 0, none⟩)] w fun v w' => v = .bool (row wl arcs.length (-1000) 1000 && row x arcs.length 0 1000000 && row p N (-10000000) 10000000) ∧ Le w w' := by
  refine fn_of_run (args := [_, _, _, _]) 18 Try.func96 rfl rfl rfl fun cs => ?_
  have S := Own.start (X := nob) w
  refine r_seq ?_
  refine r_region ?_
  refine l_x rfl (x_as rfl) ?_
  refine l_nil ?_
  refine r_seq ?_
  refine r_region ?_
  refine l_x rfl (x_load rfl (ld_blks (h0.keep S.le id) Try.isAgg24 Try.sizeOf24 rfl rfl)) ?_
  refine l_x rfl (x_load rfl (ld_blk (h1.keep S.le id) Try.isAgg25 rfl)) ?_
  refine l_call [] [] [_, _] rfl rfl Try.call70 rfl (c_weights N _ arcs _ _ (by omega) _ (hA.le S.le) (Hwl.le S.le)) ?_
  rintro _ w1 ⟨rfl, hl3⟩
  have S2 := S.step hl3
  refine l_x rfl (x_mv rfl) ?_
  refine l_split (d := 8) rfl (fun hg8 => ?_) (fun hg8 => ?_)
  · skip
    refine l_x rfl (x_load rfl (ld_blks (h0.keep S2.le id) Try.isAgg24 Try.sizeOf24 rfl rfl)) ?_
    refine l_x rfl (x_load rfl (ld_blk (h2.keep S2.le id) Try.isAgg25 rfl)) ?_
    refine l_call [] [] [_, _] rfl rfl Try.call67 rfl (c_amounts N _ arcs _ _ (by omega) _ (hA.le S2.le) (Hx.le S2.le)) ?_
    rintro _ w4 ⟨rfl, hl6⟩
    have S5 := S2.step hl6
    refine l_x rfl (x_pick_t rfl rfl) ?_
    refine l_x rfl (x_mv rfl) ?_
    refine l_split (d := 13) rfl (fun hg13 => ?_) (fun hg13 => ?_)
    · skip
      refine l_x rfl (x_load rfl (ld_blks (h0.keep S5.le id) Try.isAgg24 Try.sizeOf24 rfl rfl)) ?_
      refine l_x rfl (x_load rfl (ld_blk (h3.keep S5.le id) Try.isAgg25 rfl)) ?_
      refine l_call [] [] [_, _] rfl rfl Try.call89 rfl (c_potentials N _ _ _ (by omega) _ (Hp.le S5.le)) ?_
      rintro _ w7 ⟨rfl, hl9⟩
      have S8 := S5.step hl9
      refine l_x rfl (x_pick_t rfl rfl) ?_
      refine l_x rfl (x_as rfl) ?_
      refine l_nil ?_
      refine r_ret (rs := [.tmp 4]) [_] Try.func96 rfl ⟨rfl, trivial⟩ ?_
      exact ⟨congrArg Value.bool (by simp [*]), S8.le⟩
    · skip
      refine l_pass rfl ?_
      refine l_pass rfl ?_
      refine l_pass rfl ?_
      refine l_x rfl (x_pick_f rfl rfl) ?_
      refine l_x rfl (x_as rfl) ?_
      refine l_nil ?_
      refine r_ret (rs := [.tmp 4]) [_] Try.func96 rfl ⟨rfl, trivial⟩ ?_
      exact ⟨congrArg Value.bool (by simp [*]), S5.le⟩
  · skip
    refine l_pass rfl ?_
    refine l_pass rfl ?_
    refine l_pass rfl ?_
    refine l_x rfl (x_pick_f rfl rfl) ?_
    refine l_x rfl (x_mv rfl) ?_
    refine l_pass rfl ?_
    refine l_pass rfl ?_
    refine l_pass rfl ?_
    refine l_x rfl (x_pick_f rfl rfl) ?_
    refine l_x rfl (x_as rfl) ?_
    refine l_nil ?_
    refine r_ret (rs := [.tmp 4]) [_] Try.func96 rfl ⟨rfl, trivial⟩ ?_
    exact ⟨congrArg Value.bool (by simp [*]), S2.le⟩

/-- couchant/flow.CheckBest. -/
theorem c_CheckBest (N : Int) (va : Value) (arcs : List Arc) (vw : Value) (wl : List Int) (vx : Value) (x : List Int) (vp : Value) (p : List Int) (hmwl : wl.length ≤ 9223372036854775807) (hmx : x.length ≤ 9223372036854775807) (hmp : p.length ≤ 9223372036854775807) (w : World) (hA : Rd EA w va arcs) (Hwl : Rd EI w vw wl) (Hx : Rd EI w vx x) (Hp : Rd EI w vp p) :
    Cl Try.prog 38 #[.agg #[.int .i64 N, va], vw, vx, vp] w fun v w' => v = .tuple #[.bool (decide (askd N arcs (row wl arcs.length (-1000) 1000 && row x arcs.length 0 1000000 && row p N (-10000000) 10000000) = 0) && (Flow.kept 1000 arcs x && decide (dot wl x = bnd p arcs wl))), .int .i64 (askd N arcs (row wl arcs.length (-1000) 1000 && row x arcs.length 0 1000000 && row p N (-10000000) 10000000))] ∧ Le w w' := by
  refine fn_of_run (args := [_, _, _, _]) 30 Try.func38 rfl rfl rfl fun cs => ?_
  have S := Own.start (X := nob) w
  refine r_seq ?_
  refine r_region ?_
  refine l_box S rfl rfl ?_
  intro b4 w1 S2 hl3
  refine l_box S2 rfl (Rd.cells (Hwl.le S2.le)) ?_
  intro b8 w5 S6 hl7
  refine l_box S6 rfl (Rd.cells (Hx.le S6.le)) ?_
  intro b12 w9 S10 hl11
  refine l_box S10 rfl (Rd.cells (Hp.le S10.le)) ?_
  intro b16 w13 S14 hl15
  refine l_x rfl (x_as rfl) ?_
  refine l_x rfl (x_as rfl) ?_
  refine l_nil ?_
  refine r_seq ?_
  refine r_seq ?_
  refine r_region ?_
  refine l_x rfl (x_load rfl (ld_blks (S14.blk 0 rfl) Try.isAgg24 Try.sizeOf24 rfl rfl)) ?_
  refine l_x rfl (x_func rfl rfl) ?_
  refine l_call [] [] [_, _] rfl rfl Try.call62 rfl (c_asked N va arcs (row wl arcs.length (-1000) 1000 && row x arcs.length 0 1000000 && row p N (-10000000) 10000000) 96 [_, _, _, _] _ (hA.le S14.le) Try.call96 (fun _ w1 h1 => c_CheckBest1 N va arcs vw wl vx x vp p _ _ _ _ (by omega) (by omega) (by omega) w1 ((S14.blk 0 rfl).keep h1 id) ((S14.blk 1 rfl).keep h1 id) ((S14.blk 2 rfl).keep h1 id) ((S14.blk 3 rfl).keep h1 id) (hA.le (S14.le.trans h1)) (Hwl.le (S14.le.trans h1)) (Hx.le (S14.le.trans h1)) (Hp.le (S14.le.trans h1)))) ?_
  rintro _ w17 ⟨rfl, hl19⟩
  have S18 := S14.step hl19
  refine l_x rfl (x_as rfl) ?_
  refine l_nil ?_
  refine r_seq ?_
  refine r_region ?_
  refine l_x rfl (x_mv rfl) ?_
  refine l_x rfl (x_neq rfl rfl) ?_
  refine l_nil ?_
  refine r_ifd rfl (fun hc15 => ?_) (fun hc15 => ?_)
  · skip
    refine r_seq ?_
    refine r_region ?_
    refine l_x rfl (x_mv rfl) ?_
    refine l_x rfl (x_as rfl) ?_
    refine l_x rfl (x_as rfl) ?_
    refine l_nil ?_
    refine r_ret (rs := [.tmp 8, .tmp 9]) [_, _] Try.func38 rfl ⟨rfl, rfl, trivial⟩ ?_
    exact ⟨by show Value.tuple #[.bool false, .int .i64 _] = _; simp [hc15], S18.le⟩
  · skip
    have h0 := Decidable.not_not.1 hc15
    obtain ⟨hV, hq⟩ := askd_zero.1 h0
    rw [Bool.and_eq_true, Bool.and_eq_true] at hq
    have hw := row_wts.1 hq.1.1
    have hx := row_amts.1 hq.1.2
    have hp := row_pts.1 hq.2
    refine r_skip ?_
    refine r_seq ?_
    refine r_drawR 15 Try.mixed (by kernel_rfl) ?_
    refine w_x rfl (fun w1 h1 => x_load rfl (ld_blks ((S18.step h1).blk 0 rfl) Try.isAgg24 Try.sizeOf24 rfl rfl)) ?_
    refine w_x rfl (fun w1 h1 => x_load rfl (ld_blk ((S18.step h1).blk 2 rfl) Try.isAgg25 rfl)) ?_
    refine wd_call [] [] [_, _] rfl rfl Try.call68 rfl (fun w1 h1 => c_kept N va arcs _ _ hV hx _ (hA.le (S18.step h1).le) (Hx.le (S18.step h1).le)) ?_
    refine w_x rfl (fun w1 h1 => x_mv rfl) ?_
    refine w_split (d := 20) rfl (fun hg20 => ?_) (fun hg20 => ?_)
    · skip
      refine w_x rfl (fun w1 h1 => x_load rfl (ld_blk ((S18.step h1).blk 1 rfl) Try.isAgg25 rfl)) ?_
      refine w_x rfl (fun w1 h1 => x_load rfl (ld_blk ((S18.step h1).blk 2 rfl) Try.isAgg25 rfl)) ?_
      refine wd_call [] [] [_, _] rfl rfl Try.call72 rfl (fun w1 h1 => c_sum arcs N _ _ _ _ hV hw hx _ (Hwl.le (S18.step h1).le) (Hx.le (S18.step h1).le)) ?_
      refine w_x rfl (fun w1 h1 => x_load rfl (ld_blks ((S18.step h1).blk 0 rfl) Try.isAgg24 Try.sizeOf24 rfl rfl)) ?_
      refine w_x rfl (fun w1 h1 => x_load rfl (ld_blk ((S18.step h1).blk 1 rfl) Try.isAgg25 rfl)) ?_
      refine w_x rfl (fun w1 h1 => x_load rfl (ld_blk ((S18.step h1).blk 3 rfl) Try.isAgg25 rfl)) ?_
      refine wd_call [] [] [_, _, _, _] rfl rfl Try.call90 rfl (fun w1 h1 => c_bound0 N va arcs _ _ _ _ 97 hV hw hp Try.call97 c_CheckBest2 _ (hA.le (S18.step h1).le) (Hwl.le (S18.step h1).le) (Hp.le (S18.step h1).le)) ?_
      refine w_x rfl (fun w1 h1 => x_eql rfl rfl) ?_
      refine w_x rfl (fun w1 h1 => x_pick_t rfl rfl) ?_
      refine w_x rfl (fun w1 h1 => x_as rfl) ?_
      refine w_x rfl (fun w1 h1 => x_as rfl) ?_
      refine w_nil ?_
      intro w20 hl21
      have S22 := S18.step hl21
      refine l_nil ?_
      refine r_ret (rs := [.tmp 8, .tmp 9]) [_, _] Try.func38 rfl ⟨rfl, rfl, trivial⟩ ?_
      exact ⟨by show Value.tuple #[.bool _, .int .i64 0] = _; simp [h0, hg20], S22.le⟩
    · skip
      refine w_pass rfl ?_
      refine w_pass rfl ?_
      refine w_pass rfl ?_
      refine w_pass rfl ?_
      refine w_pass rfl ?_
      refine w_pass rfl ?_
      refine w_pass rfl ?_
      refine w_pass rfl ?_
      refine w_x rfl (fun w1 h1 => x_pick_f rfl rfl) ?_
      refine w_x rfl (fun w1 h1 => x_as rfl) ?_
      refine w_x rfl (fun w1 h1 => x_as rfl) ?_
      refine w_nil ?_
      intro w23 hl24
      have S25 := S18.step hl24
      refine l_nil ?_
      refine r_ret (rs := [.tmp 8, .tmp 9]) [_, _] Try.func38 rfl ⟨rfl, rfl, trivial⟩ ?_
      exact ⟨by show Value.tuple #[.bool _, .int .i64 0] = _; simp [h0, hg20], S25.le⟩

/-- couchant/flow.opposite. -/
theorem c_opposite (vw : Value) (wl : List Int) (hm : wl.length ≤ 4000) (hb : ∀ y ∈ wl, -1000 ≤ y ∧ y ≤ 1000) (w : World) (Hwl : Rd EI w vw wl) :
    Cl Try.prog 101 #[vw] w fun v w' => New w w' (vec EI v (wl.map (- ·))) ∧ Le w w' := by
  refine fn_of_run (args := [_]) 23 Try.func101 rfl rfl rfl fun cs => ?_
  have S := Own.start (X := nob) w
  refine r_seq ?_
  refine r_region ?_
  refine l_x rfl (x_as rfl) ?_
  refine l_nil ?_
  refine r_seq ?_
  refine r_region ?_
  refine l_x rfl (x_mv rfl) ?_
  refine l_x rfl (x_len (Hwl.le S.le) rfl Try.runUnderlying25) ?_
  refine l_make EI 0 S rfl Try.runUnderlying25 Try.sizeOf3 Try.typeInfo3 Try.zeroValue3 rfl rfl rfl rfl (Nat.le_refl _) (by unfold maxLen; omega) (by show _ * 8 ≤ _; omega) ?_
  intro v4 w1 hv5 S2 hl3
  refine l_x rfl (x_as rfl) ?_
  refine l_nil ?_
  refine r_seq ?_
  refine r_seq ?_
  refine r_region ?_
  refine l_x rfl (x_mv rfl) ?_
  refine l_x rfl (x_len (Hwl.le S2.le) rfl Try.runUnderlying25) ?_
  refine l_x rfl (x_mv rfl) ?_
  refine l_nil ?_
  refine r_block ?_
  refine r_loop (G := Nat) (fun i => wl.length - i) (fun i => [(9, vw), (11, .int .i64 i), (10, .int .i64 wl.length), (3, v4)]) (fun i w' => (i ≤ wl.length) ∧ Own nob w w' [vec EI v4 (pre (wl.map (- ·)) 0 i)]) 0 ⟨rfl, rfl, rfl, rfl, trivial⟩ ⟨Nat.zero_le _, (by rw [pre_zero, List.length_map]; exact S2)⟩ ?_
  rintro i ρ w1 ⟨hi, S1⟩ IH
  refine r_seq ?_
  refine r_region ?_
  refine l_x rfl (x_lss rfl rfl) ?_
  refine l_nil ?_
  refine r_seq ?_
  refine r_ifd rfl (fun hc12 => ?_) (fun hc12 => ?_)
  · skip
    obtain ⟨a, ha⟩ : ∃ a, wl[i]? = some a := ⟨_, List.getElem?_eq_getElem (by omega)⟩
    have hab := hb a (List.mem_of_getElem? ha)
    refine r_skip ?_
    refine r_seq ?_
    refine r_block ?_
    refine r_seq ?_
    refine r_region ?_
    refine l_x rfl (x_mv rfl) ?_
    refine l_index EI rfl (Hwl.le S1.le) rfl rfl Try.runUnderlying25 Try.sizeOf3 (by omega) (by first | assumption | exact List.getElem?_eq_getElem (by omega)) ?_
    intro b6 o7 hat8 row9
    refine l_x rfl (x_load rfl (ld_cell Try.isAgg3 (row9 0 _ rfl))) ?_
    refine l_x rfl (x_as rfl) ?_
    refine l_x rfl (x_as rfl) ?_
    refine l_nil ?_
    refine r_region ?_
    refine l_x rfl (x_mv rfl) ?_
    refine l_x rfl (x_mv rfl) ?_
    refine l_x rfl (x_mv rfl) ?_
    refine l_x rfl (x_neg rfl (by omega)) ?_
    refine l_index EI rfl (vec_rd (S1.at 0 rfl)) rfl rfl Try.runUnderlying25 Try.sizeOf3 (by omega) (pre_get (by rw [List.length_map]; omega)) ?_
    intro b10 o11 hat12 row13
    refine l_storevi (f := 0) S1 0 rfl rfl hat12 rfl rfl Try.sizeOf3 (pre_get (by rw [List.length_map]; omega)) (by decide) rfl ?_
    intro w14 S15 hk16
    refine l_nil ?_
    refine r_inBlock ?_
    refine r_region ?_
    refine l_x rfl (x_add rfl rfl (by omega)) ?_
    refine l_x rfl (x_mv rfl) ?_
    refine l_nil ?_
    exact IH (i + 1) _ _ (by omega) ⟨rfl, rfl, rfl, rfl, trivial⟩ ⟨by omega, (by rw [← pre_step (a := -a) (by rw [List.getElem?_map, ha]; rfl)]; exact S15)⟩
  · skip
    have hi : i = wl.length := by omega
    subst hi
    refine r_exit rfl ?_
    refine r_seq ?_
    refine r_region ?_
    refine l_x rfl (x_mv rfl) ?_
    refine l_x rfl (x_as rfl) ?_
    refine l_nil ?_
    refine r_ret (rs := [.tmp 2]) [_] Try.func101 rfl ⟨rfl, trivial⟩ ?_
    exact ⟨(by rw [← pre_full (l := wl.map (- ·)) (z := 0), List.length_map]; exact S1.new 0 rfl), S1.le⟩

end Go.Proofs

/-
  Contracts of functions of the program: each by symbolic execution of its text.
-/
namespace Go.Proofs
open Go Go.Vk Go.Vk.Flow

/-- slices.DeleteFunc[[]int,int]. -/
theorem c_DeleteFunc (v0 : Value) (l : List Int) (p : Int → Bool) (kf : Nat) (caps : List Value) (hmx : l.length ≤ 9223372036854775807) (w : World) (he : ∀ args w, (callFunc kf args).run Try.prog w = .ok (.enter kf args) w)
    (hf : ∀ x ∈ l, ∀ w1, Cl Try.prog kf ([Value.int .i64 x] ++ caps).toArray w1 fun v w2 => v = .bool (p x) ∧ Le w1 w2) (S : Own (vec EI v0 l).fp w w [vec EI v0 l]) :
    Cl Try.prog 124 #[v0, .func (.func kf) #[] caps.toArray] w fun v w' => Own (vec EI v0 l).fp w w' [vec EI v (l.filter fun x => !p x)] := by
  refine fn_of_run (args := [_, _]) 42 Try.func124 rfl rfl rfl fun cs => ?_
  refine r_seq ?_
  refine r_region ?_
  refine l_x rfl (x_as rfl) ?_
  refine l_nil ?_
  refine r_seq ?_
  refine r_region ?_
  refine l_x rfl (x_mv rfl) ?_
  refine l_x rfl (x_mv rfl) ?_
  refine l_call [] [] [_, _] rfl rfl Try.call117 rfl (c_IndexFuncInt _ _ p kf caps hmx _ (vec_rd (S.at 0 rfl)) he (fun x hx w1 _ => hf x hx w1)) ?_
  rintro _ w1 ⟨rfl, hl3⟩
  have S2 := S.step hl3
  refine l_x rfl (x_as rfl) ?_
  refine l_nil ?_
  refine r_seq ?_
  refine r_seq ?_
  refine r_region ?_
  refine l_x rfl (x_mv rfl) ?_
  refine l_x rfl (x_eql rfl rfl) ?_
  refine l_nil ?_
  refine r_ifd rfl (fun hc12 => ?_) (fun hc12 => ?_)
  · skip
    refine r_seq ?_
    refine r_region ?_
    refine l_x rfl (x_mv rfl) ?_
    refine l_x rfl (x_as rfl) ?_
    refine l_nil ?_
    refine r_ret (rs := [.tmp 4]) [_] Try.func124 rfl ⟨rfl, trivial⟩ ?_
    rw [List.filter_eq_self.2 fun x hx => by simp [idx_neg hc12 x hx]]
    exact S2
  · skip
    refine r_skip ?_
    refine r_seq ?_
    refine r_seq ?_
    obtain ⟨i0, a0, hi0, ha0, hp0, hn0⟩ := idx_pos hc12
    have hi0l := (List.getElem?_eq_some_iff.1 ha0).1
    refine r_slot 5 (.int .i64 (i0 : Int)) (congrArg (Value.int .i64) hi0) ?_
    refine r_region ?_
    refine l_x rfl (x_mv rfl) ?_
    refine l_x rfl (x_add rfl rfl (by omega)) ?_
    refine l_x rfl (x_as rfl) ?_
    refine l_nil ?_
    refine r_block ?_
    refine r_loop (G := Nat × Nat × List Int) (fun ⟨i, j, l1⟩ => l.length - j) (fun ⟨i, j, l1⟩ => [(0, v0), (1, .func (.func kf) #[] caps.toArray), (5, .int .i64 i), (6, .int .i64 j)]) (fun ⟨i, j, l1⟩ w' => (DelInv p l l1 i j) ∧ Own (vec EI v0 l).fp w w' [vec EI v0 l1]) (i0, i0 + 1, l) ⟨rfl, rfl, rfl, rfl, trivial⟩ ⟨DelInv.start ha0 hp0 hn0, S2⟩ ?_
    rintro ⟨i, j, l1⟩ ρ w1 ⟨hI, S1⟩ IH
    refine r_seq ?_
    refine r_seq ?_
    refine r_region ?_
    refine l_x rfl (x_mv rfl) ?_
    refine l_x rfl (x_mv rfl) ?_
    refine l_x rfl (x_len (vec_rd (S1.at 0 rfl)) rfl Try.runUnderlying25) ?_
    refine l_x rfl (x_lss rfl rfl) ?_
    refine l_nil ?_
    refine r_ifd rfl (fun hc19 => ?_) (fun hc19 => ?_)
    · skip
      have hlen := hI.len
      have hle := hI.le
      obtain ⟨a, ha⟩ : ∃ a, l[j]? = some a := ⟨_, List.getElem?_eq_getElem (by omega)⟩
      have ha1 := hI.at ha
      refine r_skip ?_
      refine r_seq ?_
      refine r_block ?_
      refine r_seq ?_
      refine r_region ?_
      refine l_x rfl (x_mv rfl) ?_
      refine l_x rfl (x_mv rfl) ?_
      refine l_index EI rfl (vec_rd (S1.at 0 rfl)) rfl rfl Try.runUnderlying25 Try.sizeOf3 (by omega) (by first | assumption | exact List.getElem?_eq_getElem (by omega)) ?_
      intro b4 o5 hat6 row7
      refine l_x rfl (x_load rfl (ld_cell Try.isAgg3 (row7 0 _ rfl))) ?_
      refine l_x rfl (x_as rfl) ?_
      refine l_nil ?_
      refine r_seq ?_
      refine r_region ?_
      refine l_x rfl (x_mv rfl) ?_
      refine l_x rfl (x_mv rfl) ?_
      refine l_call [] caps ([_] ++ caps) rfl rfl he rfl (hf _ (List.mem_of_getElem? ha) _) ?_
      rintro _ w8 ⟨rfl, hl10⟩
      have S9 := S1.step hl10
      refine l_x rfl (x_not rfl) ?_
      refine l_nil ?_
      refine r_if rfl (fun hc29 => ?_) (fun hc29 => ?_)
      · skip
        have hc29 : p a = false := by simpa using hc29
        refine r_seq ?_
        refine r_region ?_
        refine l_x rfl (x_mv rfl) ?_
        refine l_x rfl (x_mv rfl) ?_
        refine l_x rfl (x_mv rfl) ?_
        refine l_index EI rfl (vec_rd (S9.at 0 rfl)) rfl rfl Try.runUnderlying25 Try.sizeOf3 (by omega) (by first | assumption | exact List.getElem?_eq_getElem (by omega)) ?_
        intro b11 o12 hat13 row14
        refine l_storevi (f := 0) S9 0 rfl rfl hat13 rfl rfl Try.sizeOf3 (by first | assumption | exact List.getElem?_eq_getElem (by omega)) (by decide) rfl ?_
        intro w15 S16 hk17
        refine l_nil ?_
        refine r_region ?_
        refine l_x rfl (x_mv rfl) ?_
        refine l_x rfl (x_add rfl rfl (by omega)) ?_
        refine l_x rfl (x_as rfl) ?_
        refine l_nil ?_
        refine r_inBlock ?_
        refine r_region ?_
        refine l_x rfl (x_mv rfl) ?_
        refine l_x rfl (x_add rfl rfl (by omega)) ?_
        refine l_x rfl (x_as rfl) ?_
        refine l_nil ?_
        exact IH (i + 1, j + 1, l1.set i a) _ _ (by dsimp only; omega) ⟨rfl, rfl, rfl, rfl, trivial⟩ ⟨hI.keep ha hc29, S16⟩
      · skip
        have hc29 : p a = true := by simpa using hc29
        refine r_skip ?_
        refine r_inBlock ?_
        refine r_region ?_
        refine l_x rfl (x_mv rfl) ?_
        refine l_x rfl (x_add rfl rfl (by omega)) ?_
        refine l_x rfl (x_as rfl) ?_
        refine l_nil ?_
        exact IH (i, j + 1, l1) _ _ (by dsimp only; omega) ⟨rfl, rfl, rfl, rfl, trivial⟩ ⟨hI.drop ha hc29, S9⟩
    · skip
      have hlen := hI.len
      have hle := hI.le
      have hj : j = l.length := by have := hI.lej; omega
      subst hj
      refine r_exit rfl ?_
      refine r_seq ?_
      refine r_region ?_
      refine l_x rfl (x_mv rfl) ?_
      refine l_x rfl (x_mv rfl) ?_
      refine l_tail S1 0 rfl rfl rfl rfl Try.runUnderlying25 Try.sizeOf3 (by omega) ?_
      intro v18 ht19
      refine l_clear (a0 := 0) S1 0 rfl rfl ht19 rfl Try.runUnderlying25 Try.zeroValue3 rfl rfl rfl ?_
      intro w20 S21 hk22
      refine l_nil ?_
      refine r_seq ?_
      refine r_region ?_
      refine l_x rfl (x_mv rfl) ?_
      refine l_x rfl (x_mv rfl) ?_
      refine l_prefix S21 0 rfl rfl rfl rfl Try.runUnderlying25 Try.sizeOf3 (by rw [List.length_append, List.length_take, List.length_replicate]; omega) ?_
      intro v23 S24
      refine l_x rfl (x_as rfl) ?_
      refine l_nil ?_
      refine r_ret (rs := [.tmp 4]) [_] Try.func124 rfl ⟨rfl, trivial⟩ ?_
      have hS := S24
      rw [Int.toNat_natCast, List.take_append_of_le_length (by rw [List.length_take]; omega), List.take_take, Nat.min_self, hI.done] at hS
      exact hS

/-- couchant/flow.listed$1. -/
theorem c_listed1 (x : Int) (w : World) :
    Cl Try.prog 125 #[.int .i64 x] w fun v w' => v = .bool (decide (x = 0)) ∧ Le w w' := by
  refine fn_of_run (args := [_]) 5 Try.func125 rfl rfl rfl fun cs => ?_
  have S := Own.start (X := nob) w
  refine r_seq ?_
  refine r_region ?_
  refine l_x rfl (x_as rfl) ?_
  refine l_nil ?_
  refine r_seq ?_
  refine r_region ?_
  refine l_x rfl (x_mv rfl) ?_
  refine l_x rfl (x_eql rfl rfl) ?_
  refine l_x rfl (x_as rfl) ?_
  refine l_nil ?_
  refine r_ret (rs := [.tmp 2]) [_] Try.func125 rfl ⟨rfl, trivial⟩ ?_
  exact ⟨rfl, S.le⟩

/-- slices.Sort at a slice that is lent. -/
theorem c_Sort (v : Value) (l : List Int) (w : World) (S : Own (vec EI v l).fp w w [vec EI v l]) (hl : l.length < 4611686018427387904) :
    Cl Try.prog 126 #[v] w fun _ w' => Own (vec EI v l).fp w w' [vec EI v (l.mergeSort fun x y => decide (x ≤ y))] := sort_cl Try.slices_Sort_int Try.slices_Sort_int_none S hl
/-- slices.Compact at a slice that is lent. -/
theorem c_Compact (v : Value) (l : List Int) (w : World) (S : Own (vec EI v l).fp w w [vec EI v l]) :
    Cl Try.prog 127 #[v] w fun v' w' => Own (vec EI v l).fp w w' [vec EI v' (Lib.compact l)] := compact_cl Try.slices_Compact_int Try.slices_Compact_int_empty S

/-- couchant/flow.listed. -/
theorem c_listed (v0 : Value) (l : List Int) (hmx : l.length ≤ 1000000) (w : World) (S : Own (vec EI v0 l).fp w w [vec EI v0 l]) :
    Cl Try.prog 80 #[v0] w fun v w' => Own (vec EI v0 l).fp w w' [vec EI v (lst l)] := by
  refine fn_of_run (args := [_]) 9 Try.func80 rfl rfl rfl fun cs => ?_
  refine r_seq ?_
  refine r_region ?_
  refine l_x rfl (x_as rfl) ?_
  refine l_nil ?_
  refine r_seq ?_
  refine r_region ?_
  refine l_x rfl (x_mv rfl) ?_
  refine l_call [] [] [_, _] rfl rfl Try.call124 rfl (c_DeleteFunc _ l (fun x => decide (x = 0)) 125 [] (by omega) _ Try.call125 (fun x _ w1 => c_listed1 x w1) (S.lend 0 rfl)) ?_
  intro v1 w2 hl4
  have S3 := S.back 0 rfl hl4
  refine l_x rfl (x_as rfl) ?_
  refine l_nil ?_
  refine r_seq ?_
  refine r_region ?_
  refine l_x rfl (x_mv rfl) ?_
  refine l_call [] [] [_] rfl rfl Try.call126 rfl (c_Sort _ _ _ (S3.lend 0 rfl) (by have := List.length_filter_le (fun x => !decide (x = 0)) l; omega)) ?_
  intro _ w5 hl7
  have S6 := S3.back 0 rfl hl7
  refine l_nil ?_
  refine r_seq ?_
  refine r_region ?_
  refine l_x rfl (x_mv rfl) ?_
  refine l_call [] [] [_] rfl rfl Try.call127 rfl (c_Compact _ _ _ (S6.lend 0 rfl)) ?_
  intro v8 w9 hl11
  have S10 := S6.back 0 rfl hl11
  refine l_x rfl (x_as rfl) ?_
  refine l_nil ?_
  refine r_ret (rs := [.tmp 2]) [_] Try.func80 rfl ⟨rfl, trivial⟩ ?_
  exact S10

/-- The list of records that a variable holds. -/
abbrev RR (bo : Nat) (l : List Int) (v : Value) : Rsc := pack [blk bo [v] 25, vec EI v l]
theorem rec_end {X : Nat → Prop} {w w' : World} {bo : Nat} {v' : Value} {l' l : List Int} (h : Own X w w' [blk bo [v'] 25, vec EI v' l']) (e : l' = l) : ∃ v', Own X w w' [RR bo l v'] := ⟨v', by subst e; exact h.close⟩

/-- couchant/flow.Records$2. -/
theorem c_Records2 (a : Arc) (h : Bool) (t : List (Arc × Bool)) (bo : Nat) (v0 : Value) (hlen : t.length < 4000) (w : World) (S0 : Own (RR bo (recs t) v0).fp w w [RR bo (recs t) v0]) :
    Cl Try.prog 99 #[.agg a.enc.toArray, .bool h, .pointer (some ⟨bo, 0, none⟩)] w fun v w' => ∃ v', Own (RR bo (recs t) v0).fp w w' [RR bo (recs (t ++ [(a, h)])) v'] := by
  refine fn_of_run (args := [_, _, _]) 21 Try.func99 rfl rfl rfl fun cs => ?_
  have S := S0.open
  refine r_seq ?_
  refine r_region ?_
  refine l_box S rfl rfl ?_
  intro b4 w1 S2 hl3
  refine l_nil ?_
  refine r_block ?_
  refine r_seq ?_
  refine r_region ?_
  refine l_x rfl (x_mv rfl) ?_
  refine l_x rfl (x_as rfl) ?_
  refine l_nil ?_
  refine r_if rfl (fun hc5 => ?_) (fun hc5 => ?_)
  · skip
    refine r_region ?_
    refine l_x rfl (x_load rfl (ld_blk (S2.blk 0 rfl) Try.isAgg25 rfl)) ?_
    refine l_x rfl (x_fieldAddr rfl Try.runUnderlying39 rfl Try.sizeOf3 (by decide)) ?_
    refine l_x rfl (x_load rfl (ld_blk (S2.blk 2 rfl) Try.isAgg3 rfl)) ?_
    refine l_buildSlice EI [_] S2 rfl Try.runUnderlying25 Try.sizeOf3 Try.zeroValue3 rfl ⟨rfl, rfl, trivial⟩ (Nat.le_of_ble_eq_true rfl) ?_
    intro v8 w5 S6 hl7
    refine l_append EI S6 1 rfl rfl rfl rfl (vec_rd (S6.at 3 rfl)) Try.underlying25 info3 rfl rfl rfl (by have := recs_len t; unfold maxLen; simp; omega) (by have := recs_len t; show _ * 8 ≤ _; simp; omega) ?_
    intro v12 w9 S10 hk11 hv13
    refine l_storeq (c' := [_]) (v := v12) S10 0 rfl rfl rfl rfl (Rd.one (vec_rd (S10.at 1 rfl))) Try.sizeOf25 (by simp) rfl ?_
    intro w14 S15 hk16
    refine l_nil ?_
    refine r_inBlock ?_
    refine r_end (rs := []) [] Try.func99 rfl trivial ?_
    exact rec_end (S15.take 2) (by rw [hc5, recs_snoc]; rfl)
  · skip
    refine r_seq ?_
    refine r_region ?_
    refine l_x rfl (x_fieldAddr rfl Try.runUnderlying39 rfl Try.sizeOf3 (by decide)) ?_
    refine l_x rfl (x_load rfl (ld_blk (S2.blk 2 rfl) Try.isAgg3 rfl)) ?_
    refine l_x rfl (x_gtr rfl rfl) ?_
    refine l_x rfl (x_as rfl) ?_
    refine l_nil ?_
    refine r_ifd rfl (fun hc12 => ?_) (fun hc12 => ?_)
    · skip
      refine r_region ?_
      refine l_x rfl (x_load rfl (ld_blk (S2.blk 0 rfl) Try.isAgg25 rfl)) ?_
      refine l_x rfl (x_fieldAddr rfl Try.runUnderlying39 rfl Try.sizeOf3 (by decide)) ?_
      refine l_x rfl (x_load rfl (ld_blk (S2.blk 2 rfl) Try.isAgg3 rfl)) ?_
      refine l_buildSlice EI [_] S2 rfl Try.runUnderlying25 Try.sizeOf3 Try.zeroValue3 rfl ⟨rfl, rfl, trivial⟩ (Nat.le_of_ble_eq_true rfl) ?_
      intro v20 w17 S18 hl19
      refine l_append EI S18 1 rfl rfl rfl rfl (vec_rd (S18.at 3 rfl)) Try.underlying25 info3 rfl rfl rfl (by have := recs_len t; unfold maxLen; simp; omega) (by have := recs_len t; show _ * 8 ≤ _; simp; omega) ?_
      intro v24 w21 S22 hk23 hv25
      refine l_storeq (c' := [_]) (v := v24) S22 0 rfl rfl rfl rfl (Rd.one (vec_rd (S22.at 1 rfl))) Try.sizeOf25 (by simp) rfl ?_
      intro w26 S27 hk28
      refine l_nil ?_
      refine r_inBlock ?_
      refine r_end (rs := []) [] Try.func99 rfl trivial ?_
      exact rec_end (S27.take 2) (by rw [hc5, recs_snoc, rec1, if_pos hc12])
    · skip
      refine r_skip ?_
      refine r_inBlock ?_
      refine r_end (rs := []) [] Try.func99 rfl trivial ?_
      exact rec_end (S2.take 2) (by rw [hc5, recs_snoc, rec1, if_neg hc12, List.append_nil])

/-- couchant/flow.Records$1. -/
theorem c_Records1 (N : Int) (va : Value) (arcs : List Arc) (vw : Value) (wl : List Int) (vp : Value) (p : List Int) (b0 b1 b2 : Nat) (hmwl : wl.length ≤ 9223372036854775807) (hmp : p.length ≤ 9223372036854775807) (w : World) (h0 : Blk w b0 [.int .i64 N, va] 24) (h1 : Blk w b1 [vw] 25) (h2 : Blk w b2 [vp] 25)  (hA : Rd EA w va arcs) (Hwl : Rd EI w vw wl) (Hp : Rd EI w vp p) :
    Cl Try.prog 98 #[.pointer (some ⟨b0, 0, none⟩), .pointer (some ⟨b1, 0, none⟩), .pointer (some ⟨b2, 0, none⟩)] w fun v w' => v = .bool (row wl arcs.length (-1000) 1000 && row p N (-10000000) 10000000) ∧ Le w w' := by
  refine fn_of_run (args := [_, _, _]) 12 Try.func98 rfl rfl rfl fun cs => ?_
  have S := Own.start (X := nob) w
  refine r_seq ?_
  refine r_region ?_
  refine l_x rfl (x_as rfl) ?_
  refine l_nil ?_
  refine r_seq ?_
  refine r_region ?_
  refine l_x rfl (x_load rfl (ld_blks (h0.keep S.le id) Try.isAgg24 Try.sizeOf24 rfl rfl)) ?_
  refine l_x rfl (x_load rfl (ld_blk (h1.keep S.le id) Try.isAgg25 rfl)) ?_
  refine l_call [] [] [_, _] rfl rfl Try.call70 rfl (c_weights N _ arcs _ _ (by omega) _ (hA.le S.le) (Hwl.le S.le)) ?_
  rintro _ w1 ⟨rfl, hl3⟩
  have S2 := S.step hl3
  refine l_x rfl (x_mv rfl) ?_
  refine l_split (d := 7) rfl (fun hg7 => ?_) (fun hg7 => ?_)
  · skip
    refine l_x rfl (x_load rfl (ld_blks (h0.keep S2.le id) Try.isAgg24 Try.sizeOf24 rfl rfl)) ?_
    refine l_x rfl (x_load rfl (ld_blk (h2.keep S2.le id) Try.isAgg25 rfl)) ?_
    refine l_call [] [] [_, _] rfl rfl Try.call89 rfl (c_potentials N _ _ _ (by omega) _ (Hp.le S2.le)) ?_
    rintro _ w4 ⟨rfl, hl6⟩
    have S5 := S2.step hl6
    refine l_x rfl (x_pick_t rfl rfl) ?_
    refine l_x rfl (x_as rfl) ?_
    refine l_nil ?_
    refine r_ret (rs := [.tmp 3]) [_] Try.func98 rfl ⟨rfl, trivial⟩ ?_
    exact ⟨congrArg Value.bool (by simp [*]), S5.le⟩
  · skip
    refine l_pass rfl ?_
    refine l_pass rfl ?_
    refine l_pass rfl ?_
    refine l_x rfl (x_pick_f rfl rfl) ?_
    refine l_x rfl (x_as rfl) ?_
    refine l_nil ?_
    refine r_ret (rs := [.tmp 3]) [_] Try.func98 rfl ⟨rfl, trivial⟩ ?_
    exact ⟨congrArg Value.bool (by simp [*]), S2.le⟩

/-- couchant/flow.Records. -/
theorem c_Records (N : Int) (va : Value) (arcs : List Arc) (vw : Value) (wl : List Int) (vp : Value) (p : List Int) (hmwl : wl.length ≤ 9223372036854775807) (hmp : p.length ≤ 9223372036854775807) (w : World) (hA : Rd EA w va arcs) (Hwl : Rd EI w vw wl) (Hp : Rd EI w vp p) :
    Cl Try.prog 40 #[.agg #[.int .i64 N, va], vw, vp] w fun v w' => ∃ s, v = .tuple #[s, .int .i64 (askd N arcs (row wl arcs.length (-1000) 1000 && row p N (-10000000) 10000000))] ∧ New w w' (vec EI s (if askd N arcs (row wl arcs.length (-1000) 1000 && row p N (-10000000) 10000000) = 0 then lst (recs (told p arcs wl)) else [])) ∧ Le w w' := by
  refine fn_of_run (args := [_, _, _]) 23 Try.func40 rfl rfl rfl fun cs => ?_
  have S := Own.start (X := nob) w
  refine r_seq ?_
  refine r_region ?_
  refine l_box S rfl rfl ?_
  intro b4 w1 S2 hl3
  refine l_box S2 rfl (Rd.cells (Hwl.le S2.le)) ?_
  intro b8 w5 S6 hl7
  refine l_box S6 rfl (Rd.cells (Hp.le S6.le)) ?_
  intro b12 w9 S10 hl11
  refine l_x rfl (x_as rfl) ?_
  refine l_x rfl (x_as rfl) ?_
  refine l_nil ?_
  refine r_seq ?_
  refine r_seq ?_
  refine r_region ?_
  refine l_x rfl (x_load rfl (ld_blks (S10.blk 0 rfl) Try.isAgg24 Try.sizeOf24 rfl rfl)) ?_
  refine l_x rfl (x_func rfl rfl) ?_
  refine l_call [] [] [_, _] rfl rfl Try.call62 rfl (c_asked N va arcs (row wl arcs.length (-1000) 1000 && row p N (-10000000) 10000000) 98 [_, _, _] _ (hA.le S10.le) Try.call98 (fun _ w1 h1 => c_Records1 N va arcs vw wl vp p _ _ _ (by omega) (by omega) w1 ((S10.blk 0 rfl).keep h1 id) ((S10.blk 1 rfl).keep h1 id) ((S10.blk 2 rfl).keep h1 id) (hA.le (S10.le.trans h1)) (Hwl.le (S10.le.trans h1)) (Hp.le (S10.le.trans h1)))) ?_
  rintro _ w13 ⟨rfl, hl15⟩
  have S14 := S10.step hl15
  refine l_x rfl (x_as rfl) ?_
  refine l_nil ?_
  refine r_seq ?_
  refine r_region ?_
  refine l_x rfl (x_mv rfl) ?_
  refine l_x rfl (x_neq rfl rfl) ?_
  refine l_nil ?_
  refine r_ifd rfl (fun hc14 => ?_) (fun hc14 => ?_)
  · skip
    refine r_seq ?_
    refine r_region ?_
    refine l_x rfl (x_mv rfl) ?_
    refine l_x rfl (x_as rfl) ?_
    refine l_x rfl (x_as rfl) ?_
    refine l_nil ?_
    refine r_ret (rs := [.tmp 6, .tmp 7]) [_, _] Try.func40 rfl ⟨rfl, rfl, trivial⟩ ?_
    exact ⟨_, rfl, by rw [if_neg hc14]; exact New.nilvec .., S14.le⟩
  · skip
    have h0 := Decidable.not_not.1 hc14
    obtain ⟨hV, hq⟩ := askd_zero.1 h0
    rw [Bool.and_eq_true] at hq
    have hw := row_wts.1 hq.1
    have hp := row_pts.1 hq.2
    refine r_skip ?_
    refine r_seq ?_
    refine r_region ?_
    refine l_alloc S14 rfl Try.zeroValue25 rfl ?_
    intro b19 w16 S17 hl18
    refine l_nil ?_
    refine r_seq ?_
    refine r_region ?_
    refine l_x rfl (x_load rfl (ld_blks (S17.blk 0 rfl) Try.isAgg24 Try.sizeOf24 rfl rfl)) ?_
    refine l_x rfl (x_load rfl (ld_blk (S17.blk 1 rfl) Try.isAgg25 rfl)) ?_
    refine l_x rfl (x_load rfl (ld_blk (S17.blk 2 rfl) Try.isAgg25 rfl)) ?_
    refine l_x rfl (x_func rfl rfl) ?_
    have Sa := Own.nilvec (E := EI) S17
    have Sb := Own.pack (A := [_, _, _]) (L := [_, _]) Sa
    refine l_call [] [] [_, _, _, _] rfl rfl Try.call90 rfl (c_bound N va arcs vw wl vp p 99 [_] (fun t r => ∃ v, r = RR _ (recs t) v) w hV hw hp Try.call99 (fun t r a h w1 ⟨v, hr⟩ _ hl hS => by subst hr; exact (c_Records2 a h t _ v hl w1 hS).mono fun _ _ ⟨v', h'⟩ => ⟨_, ⟨v', rfl⟩, h'⟩) hA Hwl Hp _ ⟨_, rfl⟩ _ (Sb.lend 3 rfl) S17.le (fun b hb => (Sb.bd 3 _ rfl b hb).2.resolve_right id)) ?_
    rintro _ w20 ⟨rfl, _, ⟨v23, rfl⟩, hback21⟩
    have S22 := Own.unpack (A := [_, _, _]) (L := [_, _]) (Sb.back 3 rfl hback21)
    have hrl := recs_len (told p arcs wl)
    have htl := told_len (p := p) arcs wl
    have hLx := hV.len
    refine l_nil ?_
    refine r_seq ?_
    refine r_region ?_
    refine l_x rfl (x_load rfl (ld_blk (S22.blk 3 rfl) Try.isAgg25 rfl)) ?_
    refine l_call [] [] [_] rfl rfl Try.call80 rfl (c_listed _ _ (by omega) _ (S22.lend 4 rfl)) ?_
    intro v24 w25 hl27
    have S26 := S22.back 4 rfl hl27
    refine l_x rfl (x_as rfl) ?_
    refine l_x rfl (x_as rfl) ?_
    refine l_nil ?_
    refine r_ret (rs := [.tmp 6, .tmp 7]) [_, _] Try.func40 rfl ⟨rfl, rfl, trivial⟩ ?_
    exact ⟨_, congrArg (fun x => Value.tuple #[_, .int .i64 x]) h0.symm, by rw [if_pos h0]; exact S26.new 4 rfl, S26.le⟩

end Go.Proofs

/-
  Contracts of functions of the program: each by symbolic execution of its text.
-/
namespace Go.Proofs
open Go Go.Vk Go.Vk.Flow

/-- couchant/flow.cut. -/
theorem c_cut (N : Int) (va : Value) (arcs : List Arc) (vn : Value) (ns : List Int) (hV : Valid N arcs) (hb : ∀ v ∈ ns, 0 ≤ v ∧ v < N) (hmx : ns.length ≤ 9223372036854775807) (w : World) (Hn : Rd EI w vn ns) :
    Cl Try.prog 81 #[.agg #[.int .i64 N, va], vn] w fun v w' => ∃ b1 b2 vs, v = .func (.func 128) #[] #[.pointer (some ⟨b1, 0, none⟩), .pointer (some ⟨b2, 0, none⟩)] ∧ Own nob w w' [blk b1 [.int .i64 N, va] 24, vec EB vs (mk N ns), blk b2 [vs] 101] := by
  have hNx := hV.max
  have hN1 := hV.pos
  refine fn_of_run (args := [_, _]) 22 Try.func81 rfl rfl rfl fun cs => ?_
  have S := Own.start (X := nob) w
  refine r_seq ?_
  refine r_region ?_
  refine l_box S rfl rfl ?_
  intro b4 w1 S2 hl3
  refine l_x rfl (x_as rfl) ?_
  refine l_nil ?_
  refine r_seq ?_
  refine r_region ?_
  refine l_x rfl (x_fieldAddr rfl Try.runUnderlying24 rfl Try.sizeOf3 (by decide)) ?_
  refine l_x rfl (x_load rfl (ld_blk (S2.blk 0 rfl) Try.isAgg3 rfl)) ?_
  refine l_make EB false S2 rfl Try.runUnderlying101 Try.sizeOf4 Try.typeInfo4 Try.zeroValue4 rfl rfl (congrArg (Value.int .i64) (Int.toNat_of_nonneg (by omega)).symm) (congrArg (Value.int .i64) (Int.toNat_of_nonneg (by omega)).symm) (Nat.le_refl _) (by unfold maxLen; omega) (by show _ * 1 ≤ _; omega) ?_
  intro v8 w5 hv9 S6 hl7
  refine l_alloc S6 rfl Try.zeroValue101 rfl ?_
  intro b13 w10 S11 hl12
  refine l_storeq (c' := [_]) (v := v8) S11 2 rfl rfl rfl rfl (Rd.one (vec_rd (S11.at 1 rfl))) Try.sizeOf101 (by simp) rfl ?_
  intro w14 S15 hk16
  refine l_nil ?_
  refine r_seq ?_
  refine r_seq ?_
  refine r_region ?_
  refine l_x rfl (x_mv rfl) ?_
  refine l_x rfl (x_len (Hn.le S15.le) rfl Try.runUnderlying25) ?_
  refine l_x rfl (x_mv rfl) ?_
  refine l_nil ?_
  refine r_block ?_
  refine r_loop (G := Nat) (fun i => ns.length - i) (fun i => [(2, .pointer (some ⟨b4, 0, none⟩)), (5, .pointer (some ⟨b13, 0, none⟩)), (11, vn), (13, .int .i64 i), (12, .int .i64 ns.length)]) (fun i w' => (i ≤ ns.length) ∧ Own nob w w' [blk b4 [.int .i64 N, va] 24, vec EB v8 (mk N (ns.take i)), blk b13 [v8] 101]) 0 ⟨rfl, rfl, rfl, rfl, rfl, trivial⟩ ⟨Nat.zero_le _, (by rw [List.take_zero, mk_nil]; exact S15)⟩ ?_
  rintro i ρ w1 ⟨hi, S1⟩ IH
  refine r_seq ?_
  refine r_region ?_
  refine l_x rfl (x_lss rfl rfl) ?_
  refine l_nil ?_
  refine r_seq ?_
  refine r_ifd rfl (fun hc14 => ?_) (fun hc14 => ?_)
  · skip
    obtain ⟨a, ha⟩ : ∃ a, ns[i]? = some a := ⟨_, List.getElem?_eq_getElem (by omega)⟩
    have hab := hb a (List.mem_of_getElem? ha)
    refine r_skip ?_
    refine r_seq ?_
    refine r_block ?_
    refine r_seq ?_
    refine r_region ?_
    refine l_index EI rfl (Hn.le S1.le) rfl rfl Try.runUnderlying25 Try.sizeOf3 (by omega) (by first | assumption | exact List.getElem?_eq_getElem (by omega)) ?_
    intro b17 o18 hat19 row20
    refine l_x rfl (x_load rfl (ld_cell Try.isAgg3 (row20 0 _ rfl))) ?_
    refine l_x rfl (x_as rfl) ?_
    refine l_nil ?_
    refine r_region ?_
    refine l_x rfl (x_load rfl (ld_blk (S1.blk 2 rfl) Try.isAgg101 rfl)) ?_
    refine l_x rfl (x_mv rfl) ?_
    refine l_index EB rfl (vec_rd (S1.at 1 rfl)) rfl rfl Try.runUnderlying101 Try.sizeOf4 (by omega) (mk_get (by omega)) ?_
    intro b21 o22 hat23 row24
    refine l_storevb (f := 0) S1 1 rfl rfl hat23 rfl rfl Try.sizeOf4 (mk_get (by omega)) (by decide) rfl ?_
    intro w25 S26 hk27
    refine l_nil ?_
    refine r_inBlock ?_
    refine r_region ?_
    refine l_x rfl (x_add rfl rfl (by omega)) ?_
    refine l_x rfl (x_mv rfl) ?_
    refine l_nil ?_
    exact IH (i + 1) _ _ (by omega) ⟨rfl, rfl, rfl, rfl, rfl, trivial⟩ ⟨by omega, (by rw [take_snoc ns i (by omega), (List.getElem?_eq_some_iff.1 ha).2, ← mk_set (by omega)]; exact S26)⟩
  · skip
    have hi : i = ns.length := by omega
    subst hi
    refine r_exit rfl ?_
    refine r_seq ?_
    refine r_region ?_
    refine l_x rfl (x_func rfl rfl) ?_
    refine l_x rfl (x_as rfl) ?_
    refine l_nil ?_
    refine r_ret (rs := [.tmp 4]) [_] Try.func81 rfl ⟨rfl, trivial⟩ ?_
    exact ⟨_, _, _, rfl, by have hS := S1; rw [List.take_length] at hS; exact hS⟩

/-- couchant/flow.cut$1. -/
theorem c_cut1 (N : Int) (va : Value) (arcs : List Arc) (ns : List Int) (hV : Valid N arcs) (b1 b2 yl : Nat) (vs : Value) (X : Nat → Prop) (u : World) (hX : ∀ b, X b → u.heap.size ≤ b) (hA : Rd EA u va arcs) (R : List (Arc × Bool) → Rsc → Prop)
    (hy : ∀ t r a o w1, R t r → (∃ s, cutl ns arcs = t ++ (a, o) :: s) → Own r.fp w1 w1 [r] → Yl Try.prog yl [Value.agg a.enc.toArray, Value.bool o].toArray w1 fun v w2 => ∃ r', v = .bool true ∧ R (t ++ [(a, o)]) r' ∧ Own r.fp w1 w2 [r']) (r : Rsc) (hr : R [] r) (w : World) (S : Own X u w [blk b1 [.int .i64 N, va] 24, vec EB vs (mk N ns), blk b2 [vs] 101, r]) :
    Cl Try.prog 128 #[.func (.yield yl) #[] #[], .pointer (some ⟨b1, 0, none⟩), .pointer (some ⟨b2, 0, none⟩)] w fun _ w' => ∃ r', R (cutl ns arcs) r' ∧ Own X u w' [blk b1 [.int .i64 N, va] 24, vec EB vs (mk N ns), blk b2 [vs] 101, r'] := by
  have hNx := hV.max
  have hLx := hV.len
  refine fn_of_run (args := [_, _, _]) 36 Try.func128 rfl rfl rfl fun cs => ?_
  refine r_seq ?_
  refine r_region ?_
  refine l_x rfl (x_fieldAddr rfl Try.runUnderlying24 rfl Try.sizeOf22 (by decide)) ?_
  refine l_x rfl (x_load rfl (ld_blk (S.blk 0 rfl) Try.isAgg22 rfl)) ?_
  refine l_x rfl (x_len (hA.le (S.here hX)) rfl Try.runUnderlying22) ?_
  refine l_x rfl (x_mv rfl) ?_
  refine l_nil ?_
  refine r_block ?_
  refine r_loop (G := Nat × Rsc) (fun ⟨i, r1⟩ => arcs.length - i) (fun ⟨i, r1⟩ => [(0, .func (.yield yl) #[] #[]), (1, .pointer (some ⟨b1, 0, none⟩)), (2, .pointer (some ⟨b2, 0, none⟩)), (7, va), (9, .int .i64 i), (8, .int .i64 arcs.length)]) (fun ⟨i, r1⟩ w' => (i ≤ arcs.length) ∧ (R (cutl ns (arcs.take i)) r1) ∧ Own X u w' [blk b1 [.int .i64 N, va] 24, vec EB vs (mk N ns), blk b2 [vs] 101, r1]) (0, r) ⟨rfl, rfl, rfl, rfl, rfl, rfl, trivial⟩ ⟨Nat.zero_le _, by simpa [cutl] using hr, (S.take 4)⟩ ?_
  rintro ⟨i, r1⟩ ρ w1 ⟨hi, hR, S1⟩ IH
  refine r_seq ?_
  refine r_region ?_
  refine l_x rfl (x_lss rfl rfl) ?_
  refine l_nil ?_
  refine r_seq ?_
  refine r_ifd rfl (fun hc10 => ?_) (fun hc10 => ?_)
  · skip
    obtain ⟨a, ha⟩ : ∃ a, arcs[i]? = some a := ⟨_, List.getElem?_eq_getElem (by omega)⟩
    have hok := hV.at ha
    refine r_skip ?_
    refine r_seq ?_
    refine r_block ?_
    refine r_seq ?_
    refine r_region ?_
    refine l_index EA rfl (hA.le (S1.here hX)) rfl rfl Try.runUnderlying22 Try.sizeOf39 (by omega) (by first | assumption | exact List.getElem?_eq_getElem (by omega)) ?_
    intro b1 o2 hat3 row4
    refine l_x rfl (x_load rfl (ld_row Try.isAgg39 Try.sizeOf39 rfl row4)) ?_
    refine l_alloc S1 rfl Try.zeroValue39 rfl ?_
    intro b8 w5 S6 hl7
    refine l_stores S6 4 rfl rfl rfl rfl (EA.one _) Try.sizeOf39 (by first | exact Nat.le_refl _ | simp) (splice_all rfl) ?_
    intro w9 S10 hk11
    refine l_nil ?_
    refine r_seq ?_
    refine r_drawR 19 Try.mixed (by kernel_rfl) ?_
    refine w_x rfl (fun w1 h1 => x_load rfl (ld_blk ((S10.step h1).blk 2 rfl) Try.isAgg101 rfl)) ?_
    refine w_x rfl (fun w1 h1 => x_fieldAddr rfl Try.runUnderlying39 rfl Try.sizeOf3 (by decide)) ?_
    refine w_x rfl (fun w1 h1 => x_load rfl (ld_blk ((S10.step h1).blk 4 rfl) Try.isAgg3 rfl)) ?_
    refine w_index EB rfl (vec_rd (S10.at 1 rfl)) rfl rfl Try.runUnderlying101 Try.sizeOf4 (by omega) (mk_get (by omega)) ?_
    intro b12 o13 hat14 row15
    refine w_x rfl (fun w1 h1 => x_load rfl (ld_cell Try.isAgg4 ((row15.le h1) 0 _ rfl))) ?_
    refine w_x rfl (fun w1 h1 => x_load rfl (ld_blk ((S10.step h1).blk 2 rfl) Try.isAgg101 rfl)) ?_
    refine w_x rfl (fun w1 h1 => x_fieldAddr rfl Try.runUnderlying39 rfl Try.sizeOf3 (by decide)) ?_
    refine w_x rfl (fun w1 h1 => x_load rfl (ld_blk ((S10.step h1).blk 4 rfl) Try.isAgg3 rfl)) ?_
    refine w_index EB rfl (vec_rd (S10.at 1 rfl)) rfl rfl Try.runUnderlying101 Try.sizeOf4 (by omega) (mk_get (by omega)) ?_
    intro b16 o17 hat18 row19
    refine w_x rfl (fun w1 h1 => x_load rfl (ld_cell Try.isAgg4 ((row19.le h1) 0 _ rfl))) ?_
    refine w_x rfl (fun w1 h1 => x_bne Try.runUnderlying4 rfl rfl) ?_
    refine w_x rfl (fun w1 h1 => x_mv rfl) ?_
    refine w_split (d := 24) rfl (fun hg24 => ?_) (fun hg24 => ?_)
    · skip
      refine w_x rfl (fun w1 h1 => x_mv rfl) ?_
      refine w_x rfl (fun w1 h1 => x_load rfl (ld_blks ((S10.step h1).blk 4 rfl) Try.isAgg39 Try.sizeOf39 rfl rfl)) ?_
      refine w_x rfl (fun w1 h1 => x_load rfl (ld_blk ((S10.step h1).blk 2 rfl) Try.isAgg101 rfl)) ?_
      refine w_x rfl (fun w1 h1 => x_fieldAddr rfl Try.runUnderlying39 rfl Try.sizeOf3 (by decide)) ?_
      refine w_x rfl (fun w1 h1 => x_load rfl (ld_blk ((S10.step h1).blk 4 rfl) Try.isAgg3 rfl)) ?_
      refine w_index EB rfl (vec_rd (S10.at 1 rfl)) rfl rfl Try.runUnderlying101 Try.sizeOf4 (by omega) (mk_get (by omega)) ?_
      intro b20 o21 hat22 row23
      refine w_x rfl (fun w1 h1 => x_load rfl (ld_cell Try.isAgg4 ((row23.le h1) 0 _ rfl))) ?_
      refine w_nil ?_
      intro w24 hl25
      have S26 := S10.step hl25
      refine l_yield [_, _] rfl rfl rfl (hy (cutl ns (arcs.take i)) r1 a (decide (a.src ∈ ns)) _ hR ⟨_, by rw [cutl_split (i := i + 1), cutl_take ha, cut1, if_pos (by simpa using hg24), List.append_assoc]; rfl⟩ (S26.lend 3 rfl)) ?_
      rintro _ w27 ⟨r30, rfl, hRr30, hback28⟩
      have S29 := S26.back 3 rfl hback28
      refine l_x rfl (x_not rfl) ?_
      refine l_x rfl (x_pick_t rfl rfl) ?_
      refine l_nil ?_
      refine r_false rfl ?_
      refine r_skip ?_
      refine r_inBlock ?_
      refine r_region ?_
      refine l_x rfl (x_add rfl rfl (by omega)) ?_
      refine l_x rfl (x_mv rfl) ?_
      refine l_nil ?_
      exact IH (i + 1, r30) _ _ (by dsimp only; omega) ⟨rfl, rfl, rfl, rfl, rfl, rfl, trivial⟩ ⟨by omega, by rw [cutl_take ha, cut1, if_pos (by simpa using hg24)]; exact hRr30, (S29.take 4)⟩
    · skip
      refine w_pass rfl ?_
      refine w_pass rfl ?_
      refine w_pass rfl ?_
      refine w_pass rfl ?_
      refine w_pass rfl ?_
      refine w_pass rfl ?_
      refine w_pass rfl ?_
      refine w_nil ?_
      intro w32 hl33
      have S34 := S10.step hl33
      refine l_pass rfl ?_
      refine l_pass rfl ?_
      refine l_x rfl (x_pick_f rfl rfl) ?_
      refine l_nil ?_
      refine r_false rfl ?_
      refine r_skip ?_
      refine r_inBlock ?_
      refine r_region ?_
      refine l_x rfl (x_add rfl rfl (by omega)) ?_
      refine l_x rfl (x_mv rfl) ?_
      refine l_nil ?_
      exact IH (i + 1, r1) _ _ (by dsimp only; omega) ⟨rfl, rfl, rfl, rfl, rfl, rfl, trivial⟩ ⟨by omega, by rw [cutl_take ha, cut1, if_neg (by simpa using hg24), List.append_nil]; exact hR, (S34.take 4)⟩
  · skip
    have hi : i = arcs.length := by omega
    subst hi
    rw [List.take_length] at hR
    refine r_exit rfl ?_
    refine r_end (rs := []) [] Try.func128 rfl trivial ?_
    exact ⟨_, hR, S1⟩

/-- couchant/flow.hinders. -/
theorem c_hinders (N : Int) (va : Value) (arcs : List Arc) (A : Int) (vn : Value) (ns : List Int) (hV : Valid N arcs) (hmx : ns.length ≤ 9223372036854775807) (w : World) (hA : Rd EA w va arcs) (Hn : Rd EI w vn ns) :
    Cl Try.prog 77 #[.agg #[.int .i64 N, va], .agg #[.int .i64 A, vn]] w fun v w' => v = .bool (hind N arcs A ns) ∧ Le w w' := by
  have hNx := hV.max
  have hN1 := hV.pos
  have hLx := hV.len
  refine fn_of_run (args := [_, _]) 78 Try.func77 rfl rfl rfl fun cs => ?_
  have S := Own.start (X := nob) w
  refine r_seq ?_
  refine r_region ?_
  refine l_box S rfl rfl ?_
  intro b4 w1 S2 hl3
  refine l_box S2 rfl rfl ?_
  intro b8 w5 S6 hl7
  refine l_x rfl (x_as rfl) ?_
  refine l_nil ?_
  refine r_seq ?_
  refine r_seq ?_
  refine r_region ?_
  refine l_x rfl (x_fieldAddr rfl Try.runUnderlying43 rfl Try.sizeOf3 (by decide)) ?_
  refine l_x rfl (x_load rfl (ld_blk (S6.blk 1 rfl) Try.isAgg3 rfl)) ?_
  refine l_x rfl (x_neq rfl rfl) ?_
  refine l_nil ?_
  refine r_ifd rfl (fun hc13 => ?_) (fun hc13 => ?_)
  · skip
    refine r_seq ?_
    refine r_drawR 31 Try.mixed (by kernel_rfl) ?_
    refine w_x rfl (fun w1 h1 => x_fieldAddr rfl Try.runUnderlying43 rfl Try.sizeOf25 (by decide)) ?_
    refine w_x rfl (fun w1 h1 => x_load rfl (ld_blk ((S6.step h1).blk 1 rfl) Try.isAgg25 rfl)) ?_
    refine w_x rfl (fun w1 h1 => x_len (Hn.le (S6.step h1).le) rfl Try.runUnderlying25) ?_
    refine w_x rfl (fun w1 h1 => x_eql rfl rfl) ?_
    refine w_x rfl (fun w1 h1 => x_mv rfl) ?_
    refine w_splitd (d := 18) rfl (fun hg18 => ?_) (fun hg18 => ?_)
    · skip
      refine w_x rfl (fun w1 h1 => x_fieldAddr rfl Try.runUnderlying43 rfl Try.sizeOf3 (by decide)) ?_
      refine w_x rfl (fun w1 h1 => x_load rfl (ld_blk ((S6.step h1).blk 1 rfl) Try.isAgg3 rfl)) ?_
      refine w_x rfl (fun w1 h1 => x_fieldAddr rfl Try.runUnderlying24 rfl Try.sizeOf22 (by decide)) ?_
      refine w_x rfl (fun w1 h1 => x_load rfl (ld_blk ((S6.step h1).blk 0 rfl) Try.isAgg22 rfl)) ?_
      refine w_x rfl (fun w1 h1 => x_len (hA.le (S6.step h1).le) rfl Try.runUnderlying22) ?_
      refine w_x rfl (fun w1 h1 => x_sub rfl rfl (by omega)) ?_
      refine wd_call [] [] [_, _, _] rfl rfl Try.call64 rfl (fun w1 h1 => c_in _ _ _ _) ?_
      refine w_x rfl (fun w1 h1 => x_pick_t rfl rfl) ?_
      refine w_x rfl (fun w1 h1 => x_mv rfl) ?_
      refine w_splitd (d := 27) rfl (fun hg27 => ?_) (fun hg27 => ?_)
      · skip
        obtain ⟨a, ha⟩ : ∃ a, arcs[A.toNat]? = some a := ⟨_, List.getElem?_eq_getElem (by omega)⟩
        refine w_x rfl (fun w1 h1 => x_fieldAddr rfl Try.runUnderlying24 rfl Try.sizeOf22 (by decide)) ?_
        refine w_x rfl (fun w1 h1 => x_load rfl (ld_blk ((S6.step h1).blk 0 rfl) Try.isAgg22 rfl)) ?_
        refine w_x rfl (fun w1 h1 => x_fieldAddr rfl Try.runUnderlying43 rfl Try.sizeOf3 (by decide)) ?_
        refine w_x rfl (fun w1 h1 => x_load rfl (ld_blk ((S6.step h1).blk 1 rfl) Try.isAgg3 rfl)) ?_
        refine w_index EA rfl (hA.le S6.le) rfl rfl Try.runUnderlying22 Try.sizeOf39 (by omega) (by first | assumption | exact List.getElem?_eq_getElem (by omega)) ?_
        intro b9 o10 hat11 row12
        refine w_x rfl (fun w1 h1 => x_fieldAddr rfl Try.runUnderlying39 rfl Try.sizeOf3 (by decide)) ?_
        refine w_x rfl (fun w1 h1 => x_load rfl (ld_cell Try.isAgg3 ((row12.le h1) 2 _ rfl))) ?_
        refine w_x rfl (fun w1 h1 => x_fieldAddr rfl Try.runUnderlying24 rfl Try.sizeOf22 (by decide)) ?_
        refine w_x rfl (fun w1 h1 => x_load rfl (ld_blk ((S6.step h1).blk 0 rfl) Try.isAgg22 rfl)) ?_
        refine w_x rfl (fun w1 h1 => x_fieldAddr rfl Try.runUnderlying43 rfl Try.sizeOf3 (by decide)) ?_
        refine w_x rfl (fun w1 h1 => x_load rfl (ld_blk ((S6.step h1).blk 1 rfl) Try.isAgg3 rfl)) ?_
        refine w_index EA rfl (hA.le S6.le) rfl rfl Try.runUnderlying22 Try.sizeOf39 (by omega) (by first | assumption | exact List.getElem?_eq_getElem (by omega)) ?_
        intro b13 o14 hat15 row16
        refine w_x rfl (fun w1 h1 => x_fieldAddr rfl Try.runUnderlying39 rfl Try.sizeOf3 (by decide)) ?_
        refine w_x rfl (fun w1 h1 => x_load rfl (ld_cell Try.isAgg3 ((row16.le h1) 3 _ rfl))) ?_
        refine w_x rfl (fun w1 h1 => x_gtr rfl rfl) ?_
        refine w_x rfl (fun w1 h1 => x_pick_t rfl rfl) ?_
        refine w_x rfl (fun w1 h1 => x_as rfl) ?_
        refine w_nil ?_
        intro w17 hl18
        have S19 := S6.step hl18
        refine l_nil ?_
        refine r_ret (rs := [.tmp 4]) [_] Try.func77 rfl ⟨rfl, trivial⟩ ?_
        exact ⟨congrArg Value.bool (by rw [hind, if_pos hc13, bad, ha]; simp [hg18, hg27]), S19.le⟩
      · skip
        refine w_pass rfl ?_
        refine w_pass rfl ?_
        refine w_pass rfl ?_
        refine w_pass rfl ?_
        refine w_pass rfl ?_
        refine w_pass rfl ?_
        refine w_pass rfl ?_
        refine w_pass rfl ?_
        refine w_pass rfl ?_
        refine w_pass rfl ?_
        refine w_pass rfl ?_
        refine w_pass rfl ?_
        refine w_pass rfl ?_
        refine w_pass rfl ?_
        refine w_pass rfl ?_
        refine w_x rfl (fun w1 h1 => x_pick_f rfl rfl) ?_
        refine w_x rfl (fun w1 h1 => x_as rfl) ?_
        refine w_nil ?_
        intro w20 hl21
        have S22 := S6.step hl21
        refine l_nil ?_
        refine r_ret (rs := [.tmp 4]) [_] Try.func77 rfl ⟨rfl, trivial⟩ ?_
        exact ⟨congrArg Value.bool (by rw [hind, if_pos hc13, bad, decide_eq_false hg27]; simp), S22.le⟩
    · skip
      refine w_pass rfl ?_
      refine w_pass rfl ?_
      refine w_pass rfl ?_
      refine w_pass rfl ?_
      refine w_pass rfl ?_
      refine w_pass rfl ?_
      refine w_pass rfl ?_
      refine w_x rfl (fun w1 h1 => x_pick_f rfl rfl) ?_
      refine w_x rfl (fun w1 h1 => x_mv rfl) ?_
      refine w_pass rfl ?_
      refine w_pass rfl ?_
      refine w_pass rfl ?_
      refine w_pass rfl ?_
      refine w_pass rfl ?_
      refine w_pass rfl ?_
      refine w_pass rfl ?_
      refine w_pass rfl ?_
      refine w_pass rfl ?_
      refine w_pass rfl ?_
      refine w_pass rfl ?_
      refine w_pass rfl ?_
      refine w_pass rfl ?_
      refine w_pass rfl ?_
      refine w_pass rfl ?_
      refine w_x rfl (fun w1 h1 => x_pick_f rfl rfl) ?_
      refine w_x rfl (fun w1 h1 => x_as rfl) ?_
      refine w_nil ?_
      intro w23 hl24
      have S25 := S6.step hl24
      refine l_nil ?_
      refine r_ret (rs := [.tmp 4]) [_] Try.func77 rfl ⟨rfl, trivial⟩ ?_
      exact ⟨congrArg Value.bool (by rw [hind, if_pos hc13, decide_eq_false hg18]; rfl), S25.le⟩
  · skip
    refine r_skip ?_
    refine r_seq ?_
    refine r_region ?_
    refine l_x rfl (x_as rfl) ?_
    refine l_nil ?_
    refine r_seq ?_
    refine r_seq ?_
    refine r_region ?_
    refine l_x rfl (x_fieldAddr rfl Try.runUnderlying43 rfl Try.sizeOf25 (by decide)) ?_
    refine l_x rfl (x_load rfl (ld_blk (S6.blk 1 rfl) Try.isAgg25 rfl)) ?_
    refine l_x rfl (x_len (Hn.le S6.le) rfl Try.runUnderlying25) ?_
    refine l_x rfl (x_mv rfl) ?_
    refine l_nil ?_
    refine r_block ?_
    refine r_loop (G := Nat × Int × List Int) (fun ⟨i, last, rest⟩ => ns.length - i) (fun ⟨i, last, rest⟩ => [(2, .pointer (some ⟨b4, 0, none⟩)), (3, .pointer (some ⟨b8, 0, none⟩)), (45, vn), (47, .int .i64 i), (46, .int .i64 ns.length), (5, .int .i64 last)]) (fun ⟨i, last, rest⟩ w' => (i ≤ ns.length) ∧ (ns.drop i = rest) ∧ (asc N (-1) ns = asc N last rest) ∧ (-1 ≤ last ∧ last ≤ 1000) ∧ Own nob w w' [blk b4 [.int .i64 N, va] 24, blk b8 [.int .i64 A, vn] 43]) (0, -1, ns) ⟨rfl, rfl, rfl, rfl, rfl, rfl, trivial⟩ ⟨Nat.zero_le _, List.drop_zero, rfl, by omega, S6⟩ ?_
    rintro ⟨i, last, rest⟩ ρ w1 ⟨hi, hrest, hasc, hlast, S1⟩ IH
    refine r_seq ?_
    refine r_region ?_
    refine l_x rfl (x_lss rfl rfl) ?_
    refine l_nil ?_
    refine r_seq ?_
    refine r_ifd rfl (fun hc48 => ?_) (fun hc48 => ?_)
    · skip
      obtain ⟨v0, hv0⟩ : ∃ v0, ns[i]? = some v0 := ⟨_, List.getElem?_eq_getElem (by omega)⟩
      have hr0 : rest = v0 :: ns.drop (i + 1) := by rw [← hrest, List.drop_eq_getElem_cons (by omega), (List.getElem?_eq_some_iff.1 hv0).2]
      refine r_skip ?_
      refine r_seq ?_
      refine r_block ?_
      refine r_seq ?_
      refine r_region ?_
      refine l_index EI rfl (Hn.le S1.le) rfl rfl Try.runUnderlying25 Try.sizeOf3 (by omega) (by first | assumption | exact List.getElem?_eq_getElem (by omega)) ?_
      intro b26 o27 hat28 row29
      refine l_x rfl (x_load rfl (ld_cell Try.isAgg3 (row29 0 _ rfl))) ?_
      refine l_x rfl (x_as rfl) ?_
      refine l_nil ?_
      refine r_seq ?_
      refine r_seq ?_
      refine r_region ?_
      refine l_x rfl (x_mv rfl) ?_
      refine l_x rfl (x_mv rfl) ?_
      refine l_x rfl (x_add rfl rfl (by omega)) ?_
      refine l_x rfl (x_fieldAddr rfl Try.runUnderlying24 rfl Try.sizeOf3 (by decide)) ?_
      refine l_x rfl (x_load rfl (ld_blk (S1.blk 0 rfl) Try.isAgg3 rfl)) ?_
      refine l_x rfl (x_sub rfl rfl (by omega)) ?_
      refine l_call [] [] [_, _, _] rfl rfl Try.call64 rfl (c_in _ _ _ _) ?_
      rintro _ w30 ⟨rfl, hl32⟩
      have S31 := S1.step hl32
      refine l_x rfl (x_notd rfl) ?_
      refine l_nil ?_
      refine r_ifd rfl (fun hc58 => ?_) (fun hc58 => ?_)
      · skip
        refine r_seq ?_
        refine r_region ?_
        refine l_x rfl (x_as rfl) ?_
        refine l_nil ?_
        refine r_ret (rs := [.tmp 4]) [_] Try.func77 rfl ⟨rfl, trivial⟩ ?_
        exact ⟨congrArg Value.bool (by rw [hind, if_neg hc13, hasc, hr0, asc, decide_eq_false hc58]; rfl), S31.le⟩
      · skip
        refine r_skip ?_
        refine r_region ?_
        refine l_x rfl (x_mv rfl) ?_
        refine l_x rfl (x_as rfl) ?_
        refine l_nil ?_
        refine r_inBlock ?_
        refine r_region ?_
        refine l_x rfl (x_add rfl rfl (by omega)) ?_
        refine l_x rfl (x_mv rfl) ?_
        refine l_nil ?_
        exact IH (i + 1, v0, ns.drop (i + 1)) _ _ (by dsimp only; omega) ⟨rfl, rfl, rfl, rfl, rfl, rfl, trivial⟩ ⟨by omega, rfl, by rw [hasc, hr0, asc, decide_eq_true (Decidable.not_not.1 hc58), Bool.true_and], by omega, S31⟩
    · skip
      have hend : rest = [] := by rw [← hrest, List.drop_eq_nil_of_le (by omega)]
      rw [hend, asc] at hasc
      have hnb : ∀ v ∈ ns, 0 ≤ v ∧ v < N := fun v hv => by have := asc_mem ns (-1) hasc v hv; omega
      refine r_exit rfl ?_
      refine r_seq ?_
      refine r_region ?_
      refine l_alloc S1 rfl Try.zeroValue3 rfl ?_
      intro b36 w33 S34 hl35
      refine l_storeq (c' := [_]) S34 2 rfl rfl rfl rfl rfl Try.sizeOf3 (by simp) rfl ?_
      intro w37 S38 hk39
      refine l_nil ?_
      refine r_seq ?_
      refine r_seq ?_
      refine r_region ?_
      refine l_x rfl (x_load rfl (ld_blks (S38.blk 0 rfl) Try.isAgg24 Try.sizeOf24 rfl rfl)) ?_
      refine l_x rfl (x_fieldAddr rfl Try.runUnderlying43 rfl Try.sizeOf25 (by decide)) ?_
      refine l_x rfl (x_load rfl (ld_blk (S38.blk 1 rfl) Try.isAgg25 rfl)) ?_
      refine l_call [] [] [_, _] rfl rfl Try.call81 rfl (c_cut N va arcs _ ns hV hnb (by omega) _ (Hn.le S38.le)) ?_
      rintro _ w40 ⟨b43, b44, v45, rfl, h42⟩
      have S41 := S38.join h42
      refine l_nil ?_
      refine r_block ?_
      refine r_rangeFunc [] [_, _] S41 rfl rfl Try.call128 ?_
      intro D46 l47 w48 S49 hl50
      have S51 : Own _ _ _ [_, _, _, _, _, _, _, _] := S49.pick [3, 4, 5, 0, 1, 2, 6, 7] (by decide) rfl
      have S52 := Own.pack (A := [_, _, _]) (L := [_, _, _, _, _]) S51
      refine (c_cut1 N va arcs ns hV _ _ _ _ nob w (fun _ h => h.elim) hA (fun t r => r = pack [_, _, blk b36 [.int .i64 (csum t)] 3, _, _]) ?_ _ rfl _ S52).mono ?_
      · skip
        rintro t _ a o w1 rfl ⟨s, hin⟩ hS
        have S53 := hS.open
        have hb := csum_bd_prefix hV hin
        have hok := okArc_iff.1 (hV.ok a (mem_cutl (ns := ns) (o := o) (by rw [hin]; simp)))
        refine yl_of_run (S53.obj 4 rfl) rfl (fun c cs => ?_)
        refine r_seq ?_
        refine r_region ?_
        refine l_alloc S53 rfl Try.zeroValue39 rfl ?_
        intro b57 w54 S55 hl56
        refine l_stores S55 5 rfl rfl rfl rfl (EA.one _) Try.sizeOf39 (by first | exact Nat.le_refl _ | simp) (splice_all rfl) ?_
        intro w58 S59 hk60
        refine l_nil ?_
        refine r_region ?_
        refine l_x rfl (x_as rfl) ?_
        refine l_nil ?_
        refine r_beginRound S59 4 rfl rfl ?_
        intro w61 S62 hk63
        refine r_block ?_
        refine r_seq ?_
        refine r_region ?_
        refine l_x rfl (x_mv rfl) ?_
        refine l_nil ?_
        refine r_if rfl (fun hc67 => ?_) (fun hc67 => ?_)
        · skip
          refine r_region ?_
          refine l_x rfl (x_load rfl (ld_blk (S62.blk 2 rfl) Try.isAgg3 rfl)) ?_
          refine l_x rfl (x_fieldAddr rfl Try.runUnderlying39 rfl Try.sizeOf3 (by decide)) ?_
          refine l_x rfl (x_load rfl (ld_blk (S62.blk 5 rfl) Try.isAgg3 rfl)) ?_
          refine l_x rfl (x_add rfl rfl (by omega)) ?_
          refine l_storeq (c' := [_]) S62 2 rfl rfl rfl rfl rfl Try.sizeOf3 (by simp) rfl ?_
          intro w64 S65 hk66
          refine l_nil ?_
          refine r_inBlock ?_
          refine r_roundEnd S65 4 rfl ?_
          intro w67 S68
          exact ⟨_, rfl, rfl, by rw [csum_snoc, hc67]; exact (S68.take 5).close⟩
        · skip
          refine r_region ?_
          refine l_x rfl (x_load rfl (ld_blk (S62.blk 2 rfl) Try.isAgg3 rfl)) ?_
          refine l_x rfl (x_fieldAddr rfl Try.runUnderlying39 rfl Try.sizeOf3 (by decide)) ?_
          refine l_x rfl (x_load rfl (ld_blk (S62.blk 5 rfl) Try.isAgg3 rfl)) ?_
          refine l_x rfl (x_sub rfl rfl (by omega)) ?_
          refine l_storeq (c' := [_]) S62 2 rfl rfl rfl rfl rfl Try.sizeOf3 (by simp) rfl ?_
          intro w69 S70 hk71
          refine l_nil ?_
          refine r_inBlock ?_
          refine r_roundEnd S70 4 rfl ?_
          intro w72 S73
          exact ⟨_, rfl, rfl, by rw [csum_snoc, hc67]; exact (S73.take 5).close⟩
      rintro _ w74 ⟨_, rfl, hback75⟩
      have S76 := Own.unpack (A := [_, _, _]) (L := [_, _, _, _, _]) hback75
      refine r_endRange S76 7 rfl rfl ?_
      intro w77 S78 hk79
      refine r_inBlock ?_
      refine r_seq ?_
      refine r_region ?_
      refine l_x rfl (x_load rfl (ld_blk (S78.blk 5 rfl) Try.isAgg3 rfl)) ?_
      refine l_x rfl (x_gtr rfl rfl) ?_
      refine l_x rfl (x_as rfl) ?_
      refine l_nil ?_
      refine r_retL rfl ?_
      refine leave_mark S78 6 rfl ?_
      intro w80 S81 hk82
      refine leave_done (rs := [.tmp 4]) [_] Try.func77 rfl ⟨rfl, trivial⟩ ?_
      exact ⟨congrArg Value.bool (by rw [hind, if_neg hc13, hasc, Bool.true_and]), S81.le⟩

/-- couchant/flow.CheckObstacle. -/
theorem c_CheckObstacle (N : Int) (va : Value) (arcs : List Arc) (A : Int) (vn : Value) (ns : List Int) (hmx : ns.length ≤ 9223372036854775807) (w : World) (hA : Rd EA w va arcs) (Hn : Rd EI w vn ns) :
    Cl Try.prog 25 #[.agg #[.int .i64 N, va], .agg #[.int .i64 A, vn]] w fun v w' => v = .tuple #[.bool (decide (chk N arcs = 0) && hind N arcs A ns), .int .i64 (chk N arcs)] ∧ Le w w' := by
  refine fn_of_run (args := [_, _]) 15 Try.func25 rfl rfl rfl fun cs => ?_
  have S := Own.start (X := nob) w
  refine r_seq ?_
  refine r_region ?_
  refine l_box S rfl rfl ?_
  intro b4 w1 S2 hl3
  refine l_box S2 rfl rfl ?_
  intro b8 w5 S6 hl7
  refine l_x rfl (x_as rfl) ?_
  refine l_x rfl (x_as rfl) ?_
  refine l_nil ?_
  refine r_seq ?_
  refine r_seq ?_
  refine r_region ?_
  refine l_x rfl (x_load rfl (ld_blks (S6.blk 0 rfl) Try.isAgg24 Try.sizeOf24 rfl rfl)) ?_
  refine l_call [] [] [_] rfl rfl Try.call36 rfl (c_Check N va arcs _ (hA.le S6.le)) ?_
  rintro _ w9 ⟨rfl, hl11⟩
  have S10 := S6.step hl11
  refine l_x rfl (x_as rfl) ?_
  refine l_nil ?_
  refine r_seq ?_
  refine r_region ?_
  refine l_x rfl (x_mv rfl) ?_
  refine l_x rfl (x_neq rfl rfl) ?_
  refine l_nil ?_
  refine r_ifd rfl (fun hc10 => ?_) (fun hc10 => ?_)
  · skip
    refine r_seq ?_
    refine r_region ?_
    refine l_x rfl (x_mv rfl) ?_
    refine l_x rfl (x_as rfl) ?_
    refine l_x rfl (x_as rfl) ?_
    refine l_nil ?_
    refine r_ret (rs := [.tmp 4, .tmp 5]) [_, _] Try.func25 rfl ⟨rfl, rfl, trivial⟩ ?_
    exact ⟨by show Value.tuple #[.bool false, .int .i64 _] = _; simp [hc10], S10.le⟩
  · skip
    have hV := chk_zero.1 (Decidable.not_not.1 hc10)
    refine r_skip ?_
    refine r_seq ?_
    refine r_region ?_
    refine l_x rfl (x_load rfl (ld_blks (S10.blk 0 rfl) Try.isAgg24 Try.sizeOf24 rfl rfl)) ?_
    refine l_x rfl (x_load rfl (ld_blks (S10.blk 1 rfl) Try.isAgg43 Try.sizeOf43 rfl rfl)) ?_
    refine l_call [] [] [_, _] rfl rfl Try.call77 rfl (c_hinders N va arcs _ _ _ hV (by omega) _ (hA.le S10.le) (Hn.le S10.le)) ?_
    rintro _ w12 ⟨rfl, hl14⟩
    have S13 := S10.step hl14
    refine l_x rfl (x_as rfl) ?_
    refine l_x rfl (x_as rfl) ?_
    refine l_nil ?_
    refine r_ret (rs := [.tmp 4, .tmp 5]) [_, _] Try.func25 rfl ⟨rfl, rfl, trivial⟩ ?_
    have h0 := Decidable.not_not.1 hc10
    exact ⟨by show Value.tuple #[.bool _, .int .i64 0] = _; simp [h0], S13.le⟩

/-- couchant/flow.ObstacleRecords$1. -/
theorem c_ObstacleRecords1 (N : Int) (va : Value) (arcs : List Arc) (A : Int) (vn : Value) (ns : List Int) (b0 b1 : Nat) (hV : Valid N arcs) (hmx : ns.length ≤ 9223372036854775807) (w : World) (h0 : Blk w b0 [.int .i64 N, va] 24) (h1 : Blk w b1 [.int .i64 A, vn] 43) (hA : Rd EA w va arcs) (Hn : Rd EI w vn ns) :
    Cl Try.prog 79 #[.pointer (some ⟨b0, 0, none⟩), .pointer (some ⟨b1, 0, none⟩)] w fun v w' => v = .bool (hind N arcs A ns) ∧ Le w w' := by
  refine fn_of_run (args := [_, _]) 6 Try.func79 rfl rfl rfl fun cs => ?_
  have S := Own.start (X := nob) w
  refine r_seq ?_
  refine r_region ?_
  refine l_x rfl (x_as rfl) ?_
  refine l_nil ?_
  refine r_seq ?_
  refine r_region ?_
  refine l_x rfl (x_load rfl (ld_blks (h0.keep S.le id) Try.isAgg24 Try.sizeOf24 rfl rfl)) ?_
  refine l_x rfl (x_load rfl (ld_blks (h1.keep S.le id) Try.isAgg43 Try.sizeOf43 rfl rfl)) ?_
  refine l_call [] [] [_, _] rfl rfl Try.call77 rfl (c_hinders N va arcs _ _ _ hV (by omega) _ (hA.le S.le) (Hn.le S.le)) ?_
  rintro _ w1 ⟨rfl, hl3⟩
  have S2 := S.step hl3
  refine l_x rfl (x_as rfl) ?_
  refine l_nil ?_
  refine r_ret (rs := [.tmp 2]) [_] Try.func79 rfl ⟨rfl, trivial⟩ ?_
  exact ⟨rfl, S2.le⟩

theorem yl_end6 {X : Nat → Prop} {w w' : World} {A B D O : Rsc} {bo : Nat} {v' : Value} {l' l : List Int} (h : Own X w w' [A, B, blk bo [v'] 25, vec EI v' l', D, O]) (e : l' = l) :
    ∃ r', Value.bool true = .bool true ∧ (∃ v, r' = pack [A, B, blk bo [v] 25, vec EI v l, D, O]) ∧ Own X w w' [r'] := ⟨_, rfl, ⟨v', rfl⟩, by subst e; exact h.close⟩

/-- couchant/flow.ObstacleRecords. -/
theorem c_ObstacleRecords (N : Int) (va : Value) (arcs : List Arc) (A : Int) (vn : Value) (ns : List Int) (hmx : ns.length ≤ 9223372036854775807) (w : World) (hA : Rd EA w va arcs) (Hn : Rd EI w vn ns) :
    Cl Try.prog 27 #[.agg #[.int .i64 N, va], .agg #[.int .i64 A, vn]] w fun v w' => ∃ s, v = .tuple #[s, .int .i64 (askd N arcs (hind N arcs A ns))] ∧ New w w' (vec EI s (if askd N arcs (hind N arcs A ns) = 0 then orec arcs A ns else [])) ∧ Le w w' := by
  refine fn_of_run (args := [_, _]) 60 Try.func27 rfl rfl rfl fun cs => ?_
  have S := Own.start (X := nob) w
  refine r_seq ?_
  refine r_region ?_
  refine l_box S rfl rfl ?_
  intro b4 w1 S2 hl3
  refine l_box S2 rfl rfl ?_
  intro b8 w5 S6 hl7
  refine l_x rfl (x_as rfl) ?_
  refine l_x rfl (x_as rfl) ?_
  refine l_nil ?_
  refine r_seq ?_
  refine r_seq ?_
  refine r_region ?_
  refine l_x rfl (x_load rfl (ld_blks (S6.blk 0 rfl) Try.isAgg24 Try.sizeOf24 rfl rfl)) ?_
  refine l_x rfl (x_func rfl rfl) ?_
  refine l_call [] [] [_, _] rfl rfl Try.call62 rfl (c_asked N va arcs (hind N arcs A ns) 79 [_, _] _ (hA.le S6.le) Try.call79 (fun hv w1 h1 => c_ObstacleRecords1 N va arcs A vn ns _ _ (chk_zero.1 hv) (by omega) w1 ((S6.blk 0 rfl).keep h1 id) ((S6.blk 1 rfl).keep h1 id) (hA.le (S6.le.trans h1)) (Hn.le (S6.le.trans h1)))) ?_
  rintro _ w9 ⟨rfl, hl11⟩
  have S10 := S6.step hl11
  refine l_x rfl (x_as rfl) ?_
  refine l_nil ?_
  refine r_seq ?_
  refine r_region ?_
  refine l_x rfl (x_mv rfl) ?_
  refine l_x rfl (x_neq rfl rfl) ?_
  refine l_nil ?_
  refine r_ifd rfl (fun hc14 => ?_) (fun hc14 => ?_)
  · skip
    refine r_seq ?_
    refine r_region ?_
    refine l_x rfl (x_mv rfl) ?_
    refine l_x rfl (x_as rfl) ?_
    refine l_x rfl (x_as rfl) ?_
    refine l_nil ?_
    refine r_ret (rs := [.tmp 4, .tmp 5]) [_, _] Try.func27 rfl ⟨rfl, rfl, trivial⟩ ?_
    exact ⟨_, rfl, by rw [if_neg hc14]; exact New.nilvec .., S10.le⟩
  · skip
    have h0 := Decidable.not_not.1 hc14
    obtain ⟨hV, hq⟩ := askd_zero.1 h0
    refine r_skip ?_
    refine r_seq ?_
    refine r_seq ?_
    refine r_region ?_
    refine l_x rfl (x_fieldAddr rfl Try.runUnderlying43 rfl Try.sizeOf3 (by decide)) ?_
    refine l_x rfl (x_load rfl (ld_blk (S10.blk 1 rfl) Try.isAgg3 rfl)) ?_
    refine l_x rfl (x_geq rfl rfl) ?_
    refine l_nil ?_
    refine r_ifd rfl (fun hc18 => ?_) (fun hc18 => ?_)
    · skip
      obtain ⟨a, ha, hbad⟩ := hind_bad hq hc18
      refine r_seq ?_
      refine r_drawR 14 Try.mixed (by kernel_rfl) ?_
      refine w_x rfl (fun w1 h1 => x_fieldAddr rfl Try.runUnderlying24 rfl Try.sizeOf22 (by decide)) ?_
      refine w_x rfl (fun w1 h1 => x_load rfl (ld_blk ((S10.step h1).blk 0 rfl) Try.isAgg22 rfl)) ?_
      refine w_x rfl (fun w1 h1 => x_fieldAddr rfl Try.runUnderlying43 rfl Try.sizeOf3 (by decide)) ?_
      refine w_x rfl (fun w1 h1 => x_load rfl (ld_blk ((S10.step h1).blk 1 rfl) Try.isAgg3 rfl)) ?_
      refine w_index EA rfl (hA.le S10.le) rfl rfl Try.runUnderlying22 Try.sizeOf39 (by omega) (by first | assumption | exact List.getElem?_eq_getElem (by omega)) ?_
      intro b12 o13 hat14 row15
      refine w_x rfl (fun w1 h1 => x_fieldAddr rfl Try.runUnderlying39 rfl Try.sizeOf3 (by decide)) ?_
      refine w_x rfl (fun w1 h1 => x_load rfl (ld_cell Try.isAgg3 ((row15.le h1) 4 _ rfl))) ?_
      refine w_x rfl (fun w1 h1 => x_fieldAddr rfl Try.runUnderlying24 rfl Try.sizeOf22 (by decide)) ?_
      refine w_x rfl (fun w1 h1 => x_load rfl (ld_blk ((S10.step h1).blk 0 rfl) Try.isAgg22 rfl)) ?_
      refine w_x rfl (fun w1 h1 => x_fieldAddr rfl Try.runUnderlying43 rfl Try.sizeOf3 (by decide)) ?_
      refine w_x rfl (fun w1 h1 => x_load rfl (ld_blk ((S10.step h1).blk 1 rfl) Try.isAgg3 rfl)) ?_
      refine w_index EA rfl (hA.le S10.le) rfl rfl Try.runUnderlying22 Try.sizeOf39 (by omega) (by first | assumption | exact List.getElem?_eq_getElem (by omega)) ?_
      intro b16 o17 hat18 row19
      refine w_x rfl (fun w1 h1 => x_fieldAddr rfl Try.runUnderlying39 rfl Try.sizeOf3 (by decide)) ?_
      refine w_x rfl (fun w1 h1 => x_load rfl (ld_cell Try.isAgg3 ((row19.le h1) 5 _ rfl))) ?_
      refine w_nil ?_
      intro w20 hl21
      have S22 := S10.step hl21
      refine l_buildSlice EI [_, _] S22 rfl Try.runUnderlying25 Try.sizeOf3 Try.zeroValue3 rfl ⟨rfl, rfl, rfl, rfl, trivial⟩ (Nat.le_of_ble_eq_true rfl) ?_
      intro v26 w23 S24 hl25
      refine l_call [] [] [_] rfl rfl Try.call80 rfl (c_listed _ _ (by first | (have := orecs_len (cutl ns arcs); have := cutl_len ns arcs; have := hV.len; omega) | simp) _ (S24.lend 2 rfl)) ?_
      intro v27 w28 hl30
      have S29 := S24.back 2 rfl hl30
      refine l_x rfl (x_as rfl) ?_
      refine l_x rfl (x_as rfl) ?_
      refine l_nil ?_
      refine r_ret (rs := [.tmp 4, .tmp 5]) [_, _] Try.func27 rfl ⟨rfl, rfl, trivial⟩ ?_
      exact ⟨_, congrArg (fun x => Value.tuple #[_, .int .i64 x]) h0.symm, by rw [if_pos h0, orec, if_pos hc18, ha]; exact S29.new 2 rfl, S29.le⟩
    · skip
      obtain ⟨hA1, hasc, hpos⟩ := hind_cut hq hc18
      have hnb : ∀ v ∈ ns, 0 ≤ v ∧ v < N := fun v hv => by have := asc_mem ns (-1) hasc v hv; omega
      refine r_skip ?_
      refine r_seq ?_
      refine r_region ?_
      refine l_alloc S10 rfl Try.zeroValue25 rfl ?_
      intro b34 w31 S32 hl33
      have S35 := S32.nilvec (E := EI)
      refine l_nil ?_
      refine r_seq ?_
      refine r_seq ?_
      refine r_region ?_
      refine l_x rfl (x_load rfl (ld_blks (S35.blk 0 rfl) Try.isAgg24 Try.sizeOf24 rfl rfl)) ?_
      refine l_x rfl (x_fieldAddr rfl Try.runUnderlying43 rfl Try.sizeOf25 (by decide)) ?_
      refine l_x rfl (x_load rfl (ld_blk (S35.blk 1 rfl) Try.isAgg25 rfl)) ?_
      refine l_call [] [] [_, _] rfl rfl Try.call81 rfl (c_cut N va arcs _ ns hV hnb (by omega) _ (Hn.le S35.le)) ?_
      rintro _ w36 ⟨b39, b40, v41, rfl, h38⟩
      have S37 := S35.join h38
      refine l_nil ?_
      refine r_block ?_
      refine r_rangeFunc [] [_, _] S37 rfl rfl Try.call128 ?_
      intro D42 l43 w44 S45 hl46
      have S47 : Own _ _ _ [_, _, _, _, _, _, _, _, _] := S45.pick [4, 5, 6, 0, 1, 2, 3, 7, 8] (by decide) rfl
      have S48 := Own.pack (A := [_, _, _]) (L := [_, _, _, _, _, _]) S47
      refine (c_cut1 N va arcs ns hV _ _ _ _ nob w (fun _ h => h.elim) hA (fun t r => ∃ v, r = pack [_, _, blk b34 [v] 25, vec EI v (orecs t), _, _]) ?_ _ ⟨_, rfl⟩ _ S48).mono ?_
      · skip
        rintro t _ a o w1 ⟨v0, rfl⟩ ⟨s, hin⟩ hS
        have S49 := hS.open
        have hb := cutl_len ns arcs
        have hLx := hV.len
        have htl : t.length < 4000 := by rw [hin] at hb; simp at hb; omega
        refine yl_of_run (S49.obj 5 rfl) rfl (fun c cs => ?_)
        refine r_seq ?_
        refine r_region ?_
        refine l_alloc S49 rfl Try.zeroValue39 rfl ?_
        intro b53 w50 S51 hl52
        refine l_stores S51 6 rfl rfl rfl rfl (EA.one _) Try.sizeOf39 (by first | exact Nat.le_refl _ | simp) (splice_all rfl) ?_
        intro w54 S55 hk56
        refine l_nil ?_
        refine r_region ?_
        refine l_x rfl (x_as rfl) ?_
        refine l_nil ?_
        refine r_beginRound S55 5 rfl rfl ?_
        intro w57 S58 hk59
        refine r_block ?_
        refine r_block ?_
        refine r_seq ?_
        refine r_region ?_
        refine l_x rfl (x_mv rfl) ?_
        refine l_x rfl (x_not rfl) ?_
        refine l_x rfl (x_as rfl) ?_
        refine l_nil ?_
        refine r_if rfl (fun hc41 => ?_) (fun hc41 => ?_)
        · skip
          have hc41 : o = false := by simpa using hc41
          refine r_region ?_
          refine l_x rfl (x_load rfl (ld_blk (S58.blk 2 rfl) Try.isAgg25 rfl)) ?_
          refine l_x rfl (x_fieldAddr rfl Try.runUnderlying39 rfl Try.sizeOf3 (by decide)) ?_
          refine l_x rfl (x_load rfl (ld_blk (S58.blk 6 rfl) Try.isAgg3 rfl)) ?_
          refine l_buildSlice EI [_] S58 rfl Try.runUnderlying25 Try.sizeOf3 Try.zeroValue3 rfl ⟨rfl, rfl, trivial⟩ (Nat.le_of_ble_eq_true rfl) ?_
          intro v63 w60 S61 hl62
          refine l_append EI S61 3 rfl rfl rfl rfl (vec_rd (S61.at 7 rfl)) Try.underlying25 info3 rfl rfl rfl (by have := orecs_len t; unfold maxLen; simp; omega) (by have := orecs_len t; show _ * 8 ≤ _; simp; omega) ?_
          intro v67 w64 S65 hk66 hv68
          refine l_storeq (c' := [_]) (v := v67) S65 2 rfl rfl rfl rfl (Rd.one (vec_rd (S65.at 3 rfl))) Try.sizeOf25 (by simp) rfl ?_
          intro w69 S70 hk71
          refine l_nil ?_
          refine r_inBlock ?_
          refine r_inBlock ?_
          refine r_roundEnd S70 5 rfl ?_
          intro w72 S73
          exact yl_end6 (S73.take 6) (by rw [hc41, orecs_snoc]; rfl)
        · skip
          have hc41 : o = true := by simpa using hc41
          refine r_seq ?_
          refine r_region ?_
          refine l_x rfl (x_fieldAddr rfl Try.runUnderlying39 rfl Try.sizeOf3 (by decide)) ?_
          refine l_x rfl (x_load rfl (ld_blk (S58.blk 6 rfl) Try.isAgg3 rfl)) ?_
          refine l_x rfl (x_gtr rfl rfl) ?_
          refine l_x rfl (x_as rfl) ?_
          refine l_nil ?_
          refine r_ifd rfl (fun hc49 => ?_) (fun hc49 => ?_)
          · skip
            refine r_region ?_
            refine l_x rfl (x_load rfl (ld_blk (S58.blk 2 rfl) Try.isAgg25 rfl)) ?_
            refine l_x rfl (x_fieldAddr rfl Try.runUnderlying39 rfl Try.sizeOf3 (by decide)) ?_
            refine l_x rfl (x_load rfl (ld_blk (S58.blk 6 rfl) Try.isAgg3 rfl)) ?_
            refine l_buildSlice EI [_] S58 rfl Try.runUnderlying25 Try.sizeOf3 Try.zeroValue3 rfl ⟨rfl, rfl, trivial⟩ (Nat.le_of_ble_eq_true rfl) ?_
            intro v77 w74 S75 hl76
            refine l_append EI S75 3 rfl rfl rfl rfl (vec_rd (S75.at 7 rfl)) Try.underlying25 info3 rfl rfl rfl (by have := orecs_len t; unfold maxLen; simp; omega) (by have := orecs_len t; show _ * 8 ≤ _; simp; omega) ?_
            intro v81 w78 S79 hk80 hv82
            refine l_storeq (c' := [_]) (v := v81) S79 2 rfl rfl rfl rfl (Rd.one (vec_rd (S79.at 3 rfl))) Try.sizeOf25 (by simp) rfl ?_
            intro w83 S84 hk85
            refine l_nil ?_
            refine r_inBlock ?_
            refine r_inBlock ?_
            refine r_roundEnd S84 5 rfl ?_
            intro w86 S87
            exact yl_end6 (S87.take 6) (by rw [hc41, orecs_snoc, Bool.not_true, rec1, if_pos hc49])
          · skip
            refine r_skip ?_
            refine r_inBlock ?_
            refine r_inBlock ?_
            refine r_roundEnd S58 5 rfl ?_
            intro w88 S89
            exact yl_end6 (S89.take 6) (by rw [hc41, orecs_snoc, Bool.not_true, rec1, if_neg hc49, List.append_nil])
      rintro _ w90 ⟨_, ⟨v9, rfl⟩, hback91⟩
      have S92 := Own.unpack (A := [_, _, _]) (L := [_, _, _, _, _, _]) hback91
      refine r_endRange S92 8 rfl rfl ?_
      intro w93 S94 hk95
      refine r_inBlock ?_
      refine r_seq ?_
      refine r_region ?_
      refine l_x rfl (x_load rfl (ld_blk (S94.blk 5 rfl) Try.isAgg25 rfl)) ?_
      refine l_call [] [] [_] rfl rfl Try.call80 rfl (c_listed _ _ (by first | (have := orecs_len (cutl ns arcs); have := cutl_len ns arcs; have := hV.len; omega) | simp) _ (S94.lend 6 rfl)) ?_
      intro v96 w97 hl99
      have S98 := S94.back 6 rfl hl99
      refine l_x rfl (x_as rfl) ?_
      refine l_x rfl (x_as rfl) ?_
      refine l_nil ?_
      refine r_retL rfl ?_
      refine leave_mark S98 7 rfl ?_
      intro w100 S101 hk102
      refine leave_done (rs := [.tmp 4, .tmp 5]) [_, _] Try.func27 rfl ⟨rfl, rfl, trivial⟩ ?_
      exact ⟨_, congrArg (fun x => Value.tuple #[_, .int .i64 x]) h0.symm, by rw [if_pos h0, orec, if_neg hc18]; exact S101.new 6 rfl, S101.le⟩

end Go.Proofs
