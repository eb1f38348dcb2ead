/- Texts joined for claims: F13, F14, F15, F16, F17, F18, F19, F20, F21, F22, F23, F24, F25, F27, F28, TL0, R0, L0, L1. -/
import Derived.Test.YtlegfcmlfhlokaaGreatK0e1a8e633c
import Derived.Test.YtlegfcmlfhlokaaGreatKee1b28480a
import Derived.Test.YtlegfcmlfhlokaaGreatRows
import Derived.Test.YtlegfcmlfhlokaaGreatK9aafc963ce
set_option linter.unusedVariables false
set_option linter.unusedSimpArgs false
set_option linter.unusedSectionVars false
/-
  Contracts of functions of the program: each by symbolic execution of its text.
-/
namespace Go.Proofs
open Go Go.Vk Go.Vk.Flow

open Go.Vk.Deed

/-- couchant/deed.kinds. -/
theorem c_kinds  (w : World) :
    Cl Tryz.prog 118 #[] w fun v w' => v = .agg #[.nilFunc, .func (.func 132) #[] #[], .func (.func 133) #[] #[], .func (.func 134) #[] #[], .func (.func 135) #[] #[], .func (.func 136) #[] #[], .func (.func 137) #[] #[], .func (.func 138) #[] #[]] ∧ Le w w' := by
  refine fn_of_run (args := []) 2 Tryz.func118 rfl rfl rfl fun cs => ?_
  have S := Own.start (X := nob) w
  refine r_seq ?_
  refine r_region ?_
  refine l_alloc S rfl Tryz.zeroValue158 rfl ?_
  intro b4 w1 S2 hl3
  refine l_nil ?_
  refine r_seq ?_
  refine r_region ?_
  refine l_x rfl (x_buildA (out := [_, _, _, _, _, _, _, _]) Tryz.zeroValue158 rfl Tryz.runUnderlying158 Tryz.sizeOf157 (fill_cons rfl rfl rfl (Nat.le_of_ble_eq_true rfl) (fill_cons rfl rfl rfl (Nat.le_of_ble_eq_true rfl) (fill_cons rfl rfl rfl (Nat.le_of_ble_eq_true rfl) (fill_cons rfl rfl rfl (Nat.le_of_ble_eq_true rfl) (fill_cons rfl rfl rfl (Nat.le_of_ble_eq_true rfl) (fill_cons rfl rfl rfl (Nat.le_of_ble_eq_true rfl) (fill_cons rfl rfl rfl (Nat.le_of_ble_eq_true rfl) fill_nil)))))))) ?_
  refine l_stores (vs := [_, _, _, _, _, _, _, _]) S2 0 rfl rfl rfl rfl (ones_cons rfl (ones_cons rfl (ones_cons rfl (ones_cons rfl (ones_cons rfl (ones_cons rfl (ones_cons rfl (ones_cons rfl ones_nil)))))))) Tryz.sizeOf158 (by first | exact Nat.le_refl _ | simp) (splice_all rfl) ?_
  intro w5 S6 hk7
  refine l_nil ?_
  refine r_ret (rs := [.cell 0 158]) [_] Tryz.func118 rfl ⟨⟨_, rfl, (ld_blks (S6.blk 0 rfl) Tryz.isAgg158 Tryz.sizeOf158 rfl rfl)⟩, trivial⟩ ?_
  exact ⟨rfl, S6.le⟩

/-- (*couchant/deed.roll).try$1. -/
theorem c_try0 (b2 b3 : Nat) (w : World) :
    Dl Tryz.prog 117 #[.pointer (some ⟨b2, 0, none⟩), .pointer (some ⟨b3, 0, none⟩)] (.returning) w (fun u w' => u = .returning ∧ Le w w') := by
  refine dl_of_run (args := [_, _]) 22 Tryz.func117 rfl rfl rfl fun c0 cs hc0 => d_same hc0 ?_
  have S := Own.start (X := nob) w
  refine r_seq ?_
  refine r_region ?_
  refine l_recover0 rfl ?_
  refine l_nil ?_
  refine r_block ?_
  refine r_seq ?_
  refine r_region ?_
  refine l_x rfl (x_niliface Tryz.runUnderlying20 rfl rfl (.inl rfl) rfl) ?_
  refine l_nil ?_
  refine r_true rfl ?_
  refine r_region ?_
  refine l_x rfl (x_as rfl) ?_
  refine l_nil ?_
  refine r_inBlock ?_
  refine d_end (rs := []) [] Tryz.func117 rfl trivial ?_
  exact ⟨rfl, S.le⟩

set_option maxHeartbeats 2000000 in
/-- (*couchant/deed.roll).try$1. -/
theorem c_try1 (b : Nat) (n : Nm) (s : St) (a : Rw) (b2 b3 : Nat) (hil : s.idle.length ≤ 1000) (hn2 : ¬ (rollS TY b n s).fp b2) (hn3 : ¬ (rollS TY b n s).fp b3) (w : World) (hb2 : Blk w b2 [.pointer (some ⟨b, 0, none⟩)] 82) (hb3 : Blk w b3 (encD a) 45) (S0 : Own (rollS TY b n s).fp w w [rollS TY b n s]) :
    Dl Tryz.prog 117 #[.pointer (some ⟨b2, 0, none⟩), .pointer (some ⟨b3, 0, none⟩)] (.panicking [pentry (.iface 156 (.agg #[]))]) w (fun u w' => u = .panicking [pdone (.iface 156 (.agg #[]))] ∧ ∃ n', Own (rollS TY b n s).fp w w' [rollS TY b n' (idleS s a.1.id)]) := by
  refine dl_of_run (args := [_, _]) 22 Tryz.func117 rfl rfl rfl fun c0 cs hc0 => d_same hc0 ?_
  obtain ⟨hs, pf, sf, hok, S⟩ := Own.rollOpen (A := []) S0
  refine r_seq ?_
  refine r_region ?_
  refine l_recover rfl ?_
  refine l_nil ?_
  refine r_block ?_
  refine r_seq ?_
  refine r_region ?_
  refine l_x rfl (x_niliface Tryz.runUnderlying20 rfl rfl (.inr ⟨_, _, rfl⟩) rfl) ?_
  refine l_nil ?_
  refine r_false rfl ?_
  refine r_seq ?_
  refine r_region ?_
  refine l_x rfl (x_assert rfl Tryz.runUnderlying156 rfl) ?_
  refine l_x rfl (x_extract rfl rfl) ?_
  refine l_x rfl (x_extract rfl rfl) ?_
  refine l_nil ?_
  refine r_true rfl ?_
  refine r_seq ?_
  refine r_region ?_
  refine l_alloc S rfl Tryz.zeroValue156 rfl ?_
  intro b4 w1 S2 hl3
  refine l_stores (vs := []) S2 7 rfl rfl rfl rfl (ones_nil) Tryz.sizeOf156 (by first | exact Nat.le_refl _ | simp) (splice_all rfl) ?_
  intro w5 S6 hk7
  refine l_nil ?_
  refine r_drawE 9 (Rsc.fp (vec EI n.iv s.idle)) Tryz.mixed (by kernel_rfl) ?_
  intro w8 hl9
  have S10 := S6.step hl9
  refine e_exact 0 _ (by kernel_rfl) rfl rfl (by kernel_rfl) rfl (ex_x rfl (fun w1 h1 => x_load rfl (ld_blk (hb2.keep (S10.under 4 rfl h1).keep hn2) Tryz.isAgg82 rfl))) ?_
  refine e_exact 1 _ (by kernel_rfl) rfl rfl (by kernel_rfl) rfl (ex_x rfl (fun w1 h1 => x_load rfl (ld_blk (hb2.keep (S10.under 4 rfl h1).keep hn2) Tryz.isAgg82 rfl))) ?_
  refine e_exact 2 _ (by kernel_rfl) rfl rfl (by kernel_rfl) rfl (ex_x rfl (fun w1 h1 => x_nilCheck rfl)) ?_
  refine e_exact 3 _ (by kernel_rfl) rfl rfl (by kernel_rfl) rfl (ex_x rfl (fun w1 h1 => x_fieldAddr rfl Tryz.runUnderlying81 rfl Tryz.sizeOf23 (by decide))) ?_
  refine e_exact 4 _ (by kernel_rfl) rfl rfl (by kernel_rfl) rfl (ex_x rfl (fun w1 h1 => x_load rfl (ld_blk ((S10.under 4 rfl h1).blk 0 rfl) Tryz.isAgg23 rfl))) ?_
  refine e_exact 5 _ (by kernel_rfl) rfl rfl (by kernel_rfl) rfl (ex_x rfl (fun w1 h1 => x_fieldAddr rfl Tryz.runUnderlying45 rfl Tryz.sizeOf3 (by decide))) ?_
  refine e_exact 6 _ (by kernel_rfl) rfl rfl (by kernel_rfl) rfl (ex_x rfl (fun w1 h1 => x_load rfl (ld_blk (hb3.keep (S10.under 4 rfl h1).keep hn3) Tryz.isAgg3 rfl))) ?_
  refine e_next [7] (by kernel_rfl) (by kernel_rfl) ⟨⟨_, _, rfl, rfl, ?_⟩, trivial⟩
  refine s_buildSlice EI [a.1.id] S10 rfl Tryz.runUnderlying23 Tryz.sizeOf3 Tryz.zeroValue3 rfl ⟨rfl, rfl, trivial⟩ (by decide) ?_
  intro v14 w11 S12 hl13
  refine ⟨.of_le hl13, ?_⟩
  refine e_next [8] (by kernel_rfl) (by kernel_rfl) ⟨⟨_, _, rfl, rfl, ?_⟩, trivial⟩
  refine s_append EI S12 4 rfl rfl rfl rfl (vec_rd (S12.at 8 rfl)) Tryz.underlying23 info3 rfl rfl rfl (by unfold maxLen; rw [List.length_singleton]; omega) (by rw [List.length_singleton]; show _ * 8 ≤ _; omega) ?_
  intro v18 w15 S16 hk17 hv19
  refine ⟨hk17, ?_⟩
  refine e_done (by kernel_rfl) ?_
  refine l_x rfl (x_nilCheck rfl) ?_
  refine l_x rfl (x_fieldAddr rfl Tryz.runUnderlying81 rfl Tryz.sizeOf23 (by decide)) ?_
  refine l_storeq (c' := [_, _, _, _, _]) (v := v18) S16 0 rfl rfl rfl rfl (Rd.one (vec_rd (S16.at 4 rfl))) Tryz.sizeOf23 (by first | (simp; done) | exact Nat.le_of_ble_eq_true rfl) rfl ?_
  intro w20 S21 hk22
  refine l_nil ?_
  refine r_inBlock ?_
  refine d_end (rs := []) [] Tryz.func117 rfl trivial ?_
  exact ⟨rfl, { n with iv := v18 }, Own.rollShut (A := []) (s := idleS s a.1.id) (S21.take 7) hok.idle⟩

set_option maxHeartbeats 4000000 in
/-- (*couchant/deed.roll).try. -/
theorem c_try (b : Nat) (n : Nm) (s : St) (a : Rw) (hf : formed a.1 = true) (hk7 : a.1.kind = 1 ∨ a.1.kind = 2 ∨ a.1.kind = 3 ∨ a.1.kind = 4 ∨ a.1.kind = 5 ∨ a.1.kind = 6 ∨ a.1.kind = 7) (hB : StB s) (hil : s.idle.length ≤ 1000) (hnew : ∀ p ∈ s.pledges, p.deed ≠ a.1.id) (hBm : a.1.kind = 3 → 0 < free s a.1.frm a.1.day → ∀ i, StB (movesS a.1.frm (a.1.heirs.take i) ((wholeS (free s a.1.frm a.1.day) a.1.shares).take i) s)) (w0 : World) (hA : SubR 3 w0 a)  (w : World) (S0 : Own (rollS TY b n s).fp w w [rollS TY b n s]) (h0 : Le w0 w) (hX : ∀ c, (rollS TY b n s).fp c → w0.heap.size ≤ c) :
    Cl Tryz.prog 101 #[.pointer (some ⟨b, 0, none⟩), .agg (encD a).toArray] w fun _ w' => ∃ n', Own (rollS TY b n s).fp w w' [rollS TY b n' (try1 s a.1)] := by
  refine fn_of_run (args := [_, _]) 12 Tryz.func101 rfl rfl rfl fun cs => ?_
  have S := S0
  refine r_seq ?_
  refine r_region ?_
  refine l_box S rfl rfl ?_
  intro b4 w1 S2 hl3
  refine l_box S2 rfl rfl ?_
  intro b8 w5 S6 hl7
  refine l_nil ?_
  refine r_seq ?_
  refine r_region ?_
  refine l_x rfl (x_func rfl rfl) ?_
  refine l_defer [] [_, _] [] rfl rfl rfl rfl ?_
  refine l_nil ?_
  rcases hk7 with hk | hk | hk | hk | hk | hk | hk
  · skip
    refine r_drawR 6 Tryz.mixed (by kernel_rfl) ?_
    refine wd_call [] [] [] rfl rfl Tryz.call118 rfl (fun w1 h1 => c_kinds _) ?_
    refine w_x rfl (fun w1 h1 => x_fieldAddr rfl Tryz.runUnderlying45 rfl Tryz.sizeOf5 (by decide)) ?_
    refine w_x rfl (fun w1 h1 => x_load rfl (ld_blk ((S6.step h1).blk 2 rfl) Tryz.isAgg5 rfl)) ?_
    refine w_x rfl (fun w1 h1 => x_part rfl rfl Tryz.runUnderlying158 Tryz.sizeOf157 Tryz.isAgg157 (by omega) (show _ = some (Value.func (.func 132) #[] #[]) from by rw [hk] <;> rfl)) ?_
    refine w_x rfl (fun w1 h1 => x_load rfl (ld_blk ((S6.step h1).blk 1 rfl) Tryz.isAgg82 rfl)) ?_
    refine w_x rfl (fun w1 h1 => x_load rfl (ld_blks ((S6.step h1).blk 2 rfl) Tryz.isAgg45 Tryz.sizeOf45 rfl rfl)) ?_
    refine w_nil ?_
    intro w9 hl10
    have S11 := S6.step hl10
    refine l_call [] [] [_, _] rfl rfl Tryz.call132 rfl (c_enter b n s a hf hB hk _ (S11.lend 0 rfl)) ?_
    rintro _ w12 ⟨n', s', hdo, hb14⟩
    have S13 := S11.back 0 rfl hb14
    refine l_nil ?_
    refine r_endU rfl ?_
    refine leave_defer rfl Tryz.call117 (by intro h; cases h) ?_
    change Dl _ _ #[.pointer (some ⟨b4, 0, none⟩), .pointer (some ⟨b8, 0, none⟩)] _ _ _
    refine (c_try0 _ _ _).mono ?_
    rintro _ wl ⟨rfl, hll⟩
    have Sl := S13.step hll
    refine leaveU_done (rs := []) [] Tryz.func101 rfl trivial ?_
    exact ⟨n', by rw [try_some hdo]; exact Sl.take 1⟩
  · skip
    refine r_drawR 6 Tryz.mixed (by kernel_rfl) ?_
    refine wd_call [] [] [] rfl rfl Tryz.call118 rfl (fun w1 h1 => c_kinds _) ?_
    refine w_x rfl (fun w1 h1 => x_fieldAddr rfl Tryz.runUnderlying45 rfl Tryz.sizeOf5 (by decide)) ?_
    refine w_x rfl (fun w1 h1 => x_load rfl (ld_blk ((S6.step h1).blk 2 rfl) Tryz.isAgg5 rfl)) ?_
    refine w_x rfl (fun w1 h1 => x_part rfl rfl Tryz.runUnderlying158 Tryz.sizeOf157 Tryz.isAgg157 (by omega) (show _ = some (Value.func (.func 133) #[] #[]) from by rw [hk] <;> rfl)) ?_
    refine w_x rfl (fun w1 h1 => x_load rfl (ld_blk ((S6.step h1).blk 1 rfl) Tryz.isAgg82 rfl)) ?_
    refine w_x rfl (fun w1 h1 => x_load rfl (ld_blks ((S6.step h1).blk 2 rfl) Tryz.isAgg45 Tryz.sizeOf45 rfl rfl)) ?_
    refine w_nil ?_
    intro w15 hl16
    have S17 := S6.step hl16
    refine l_callP [] [] [_, _] rfl rfl Tryz.call133 rfl (c_grant b n s a hf hB hk _ (S17.lend 0 rfl)) ?_ ?_
    · skip
      rintro _ w18 ⟨n', s', hdo, hb20⟩
      have S19 := S17.back 0 rfl hb20
      refine l_nil ?_
      refine r_endU rfl ?_
      refine leave_defer rfl Tryz.call117 (by intro h; cases h) ?_
      change Dl _ _ #[.pointer (some ⟨b4, 0, none⟩), .pointer (some ⟨b8, 0, none⟩)] _ _ _
      refine (c_try0 _ _ _).mono ?_
      rintro _ wl ⟨rfl, hll⟩
      have Sl := S19.step hll
      refine leaveU_done (rs := []) [] Tryz.func101 rfl trivial ?_
      exact ⟨n', by rw [try_some hdo]; exact Sl.take 1⟩
    rintro _ w21 k ⟨rfl, hdo, n', hb23⟩
    have S22 := S17.back 0 rfl hb23
    refine leave_defer rfl Tryz.call117 (by intro h; cases h) ?_
    change Dl _ _ #[.pointer (some ⟨b4, 0, none⟩), .pointer (some ⟨b8, 0, none⟩)] _ _ _
    refine (c_try1 b n' s a _ _ hil (fun hq => S22.dj 0 1 _ _ rfl rfl (by decide) _ hq rfl) (fun hq => S22.dj 0 2 _ _ rfl rfl (by decide) _ hq rfl) _ (S22.blk 1 rfl) (S22.blk 2 rfl) (S22.lend 0 rfl)).mono ?_
    rintro _ wl ⟨rfl, n2, hl2⟩
    have Sl := S22.back 0 rfl hl2
    refine leaveU_done (rs := []) [] Tryz.func101 rfl trivial ?_
    exact ⟨n2, by rw [try_none hdo]; exact Sl.take 1⟩
  · skip
    refine r_drawR 6 Tryz.mixed (by kernel_rfl) ?_
    refine wd_call [] [] [] rfl rfl Tryz.call118 rfl (fun w1 h1 => c_kinds _) ?_
    refine w_x rfl (fun w1 h1 => x_fieldAddr rfl Tryz.runUnderlying45 rfl Tryz.sizeOf5 (by decide)) ?_
    refine w_x rfl (fun w1 h1 => x_load rfl (ld_blk ((S6.step h1).blk 2 rfl) Tryz.isAgg5 rfl)) ?_
    refine w_x rfl (fun w1 h1 => x_part rfl rfl Tryz.runUnderlying158 Tryz.sizeOf157 Tryz.isAgg157 (by omega) (show _ = some (Value.func (.func 134) #[] #[]) from by rw [hk] <;> rfl)) ?_
    refine w_x rfl (fun w1 h1 => x_load rfl (ld_blk ((S6.step h1).blk 1 rfl) Tryz.isAgg82 rfl)) ?_
    refine w_x rfl (fun w1 h1 => x_load rfl (ld_blks ((S6.step h1).blk 2 rfl) Tryz.isAgg45 Tryz.sizeOf45 rfl rfl)) ?_
    refine w_nil ?_
    intro w24 hl25
    have S26 := S6.step hl25
    refine l_callP [] [] [_, _] rfl rfl Tryz.call134 rfl (c_inherit b n s a hf hB hk (hBm hk) w0 hA _ (S26.lend 0 rfl) (S26.old h0 hX) hX) ?_ ?_
    · skip
      rintro _ w27 ⟨n', s', hdo, hb29⟩
      have S28 := S26.back 0 rfl hb29
      refine l_nil ?_
      refine r_endU rfl ?_
      refine leave_defer rfl Tryz.call117 (by intro h; cases h) ?_
      change Dl _ _ #[.pointer (some ⟨b4, 0, none⟩), .pointer (some ⟨b8, 0, none⟩)] _ _ _
      refine (c_try0 _ _ _).mono ?_
      rintro _ wl ⟨rfl, hll⟩
      have Sl := S28.step hll
      refine leaveU_done (rs := []) [] Tryz.func101 rfl trivial ?_
      exact ⟨n', by rw [try_some hdo]; exact Sl.take 1⟩
    rintro _ w30 k ⟨rfl, hdo, n', hb32⟩
    have S31 := S26.back 0 rfl hb32
    refine leave_defer rfl Tryz.call117 (by intro h; cases h) ?_
    change Dl _ _ #[.pointer (some ⟨b4, 0, none⟩), .pointer (some ⟨b8, 0, none⟩)] _ _ _
    refine (c_try1 b n' s a _ _ hil (fun hq => S31.dj 0 1 _ _ rfl rfl (by decide) _ hq rfl) (fun hq => S31.dj 0 2 _ _ rfl rfl (by decide) _ hq rfl) _ (S31.blk 1 rfl) (S31.blk 2 rfl) (S31.lend 0 rfl)).mono ?_
    rintro _ wl ⟨rfl, n2, hl2⟩
    have Sl := S31.back 0 rfl hl2
    refine leaveU_done (rs := []) [] Tryz.func101 rfl trivial ?_
    exact ⟨n2, by rw [try_none hdo]; exact Sl.take 1⟩
  · skip
    refine r_drawR 6 Tryz.mixed (by kernel_rfl) ?_
    refine wd_call [] [] [] rfl rfl Tryz.call118 rfl (fun w1 h1 => c_kinds _) ?_
    refine w_x rfl (fun w1 h1 => x_fieldAddr rfl Tryz.runUnderlying45 rfl Tryz.sizeOf5 (by decide)) ?_
    refine w_x rfl (fun w1 h1 => x_load rfl (ld_blk ((S6.step h1).blk 2 rfl) Tryz.isAgg5 rfl)) ?_
    refine w_x rfl (fun w1 h1 => x_part rfl rfl Tryz.runUnderlying158 Tryz.sizeOf157 Tryz.isAgg157 (by omega) (show _ = some (Value.func (.func 135) #[] #[]) from by rw [hk] <;> rfl)) ?_
    refine w_x rfl (fun w1 h1 => x_load rfl (ld_blk ((S6.step h1).blk 1 rfl) Tryz.isAgg82 rfl)) ?_
    refine w_x rfl (fun w1 h1 => x_load rfl (ld_blks ((S6.step h1).blk 2 rfl) Tryz.isAgg45 Tryz.sizeOf45 rfl rfl)) ?_
    refine w_nil ?_
    intro w33 hl34
    have S35 := S6.step hl34
    refine l_callP [] [] [_, _] rfl rfl Tryz.call135 rfl (c_lease b n s a hf hB hk _ (S35.lend 0 rfl)) ?_ ?_
    · skip
      rintro _ w36 ⟨n', s', hdo, hb38⟩
      have S37 := S35.back 0 rfl hb38
      refine l_nil ?_
      refine r_endU rfl ?_
      refine leave_defer rfl Tryz.call117 (by intro h; cases h) ?_
      change Dl _ _ #[.pointer (some ⟨b4, 0, none⟩), .pointer (some ⟨b8, 0, none⟩)] _ _ _
      refine (c_try0 _ _ _).mono ?_
      rintro _ wl ⟨rfl, hll⟩
      have Sl := S37.step hll
      refine leaveU_done (rs := []) [] Tryz.func101 rfl trivial ?_
      exact ⟨n', by rw [try_some hdo]; exact Sl.take 1⟩
    rintro _ w39 k ⟨rfl, hdo, n', hb41⟩
    have S40 := S35.back 0 rfl hb41
    refine leave_defer rfl Tryz.call117 (by intro h; cases h) ?_
    change Dl _ _ #[.pointer (some ⟨b4, 0, none⟩), .pointer (some ⟨b8, 0, none⟩)] _ _ _
    refine (c_try1 b n' s a _ _ hil (fun hq => S40.dj 0 1 _ _ rfl rfl (by decide) _ hq rfl) (fun hq => S40.dj 0 2 _ _ rfl rfl (by decide) _ hq rfl) _ (S40.blk 1 rfl) (S40.blk 2 rfl) (S40.lend 0 rfl)).mono ?_
    rintro _ wl ⟨rfl, n2, hl2⟩
    have Sl := S40.back 0 rfl hl2
    refine leaveU_done (rs := []) [] Tryz.func101 rfl trivial ?_
    exact ⟨n2, by rw [try_none hdo]; exact Sl.take 1⟩
  · skip
    refine r_drawR 6 Tryz.mixed (by kernel_rfl) ?_
    refine wd_call [] [] [] rfl rfl Tryz.call118 rfl (fun w1 h1 => c_kinds _) ?_
    refine w_x rfl (fun w1 h1 => x_fieldAddr rfl Tryz.runUnderlying45 rfl Tryz.sizeOf5 (by decide)) ?_
    refine w_x rfl (fun w1 h1 => x_load rfl (ld_blk ((S6.step h1).blk 2 rfl) Tryz.isAgg5 rfl)) ?_
    refine w_x rfl (fun w1 h1 => x_part rfl rfl Tryz.runUnderlying158 Tryz.sizeOf157 Tryz.isAgg157 (by omega) (show _ = some (Value.func (.func 136) #[] #[]) from by rw [hk] <;> rfl)) ?_
    refine w_x rfl (fun w1 h1 => x_load rfl (ld_blk ((S6.step h1).blk 1 rfl) Tryz.isAgg82 rfl)) ?_
    refine w_x rfl (fun w1 h1 => x_load rfl (ld_blks ((S6.step h1).blk 2 rfl) Tryz.isAgg45 Tryz.sizeOf45 rfl rfl)) ?_
    refine w_nil ?_
    intro w42 hl43
    have S44 := S6.step hl43
    refine l_callP [] [] [_, _] rfl rfl Tryz.call136 rfl (c_pledge b n s a hf hB hk hnew _ (S44.lend 0 rfl)) ?_ ?_
    · skip
      rintro _ w45 ⟨n', s', hdo, hb47⟩
      have S46 := S44.back 0 rfl hb47
      refine l_nil ?_
      refine r_endU rfl ?_
      refine leave_defer rfl Tryz.call117 (by intro h; cases h) ?_
      change Dl _ _ #[.pointer (some ⟨b4, 0, none⟩), .pointer (some ⟨b8, 0, none⟩)] _ _ _
      refine (c_try0 _ _ _).mono ?_
      rintro _ wl ⟨rfl, hll⟩
      have Sl := S46.step hll
      refine leaveU_done (rs := []) [] Tryz.func101 rfl trivial ?_
      exact ⟨n', by rw [try_some hdo]; exact Sl.take 1⟩
    rintro _ w48 k ⟨rfl, hdo, n', hb50⟩
    have S49 := S44.back 0 rfl hb50
    refine leave_defer rfl Tryz.call117 (by intro h; cases h) ?_
    change Dl _ _ #[.pointer (some ⟨b4, 0, none⟩), .pointer (some ⟨b8, 0, none⟩)] _ _ _
    refine (c_try1 b n' s a _ _ hil (fun hq => S49.dj 0 1 _ _ rfl rfl (by decide) _ hq rfl) (fun hq => S49.dj 0 2 _ _ rfl rfl (by decide) _ hq rfl) _ (S49.blk 1 rfl) (S49.blk 2 rfl) (S49.lend 0 rfl)).mono ?_
    rintro _ wl ⟨rfl, n2, hl2⟩
    have Sl := S49.back 0 rfl hl2
    refine leaveU_done (rs := []) [] Tryz.func101 rfl trivial ?_
    exact ⟨n2, by rw [try_none hdo]; exact Sl.take 1⟩
  · skip
    refine r_drawR 6 Tryz.mixed (by kernel_rfl) ?_
    refine wd_call [] [] [] rfl rfl Tryz.call118 rfl (fun w1 h1 => c_kinds _) ?_
    refine w_x rfl (fun w1 h1 => x_fieldAddr rfl Tryz.runUnderlying45 rfl Tryz.sizeOf5 (by decide)) ?_
    refine w_x rfl (fun w1 h1 => x_load rfl (ld_blk ((S6.step h1).blk 2 rfl) Tryz.isAgg5 rfl)) ?_
    refine w_x rfl (fun w1 h1 => x_part rfl rfl Tryz.runUnderlying158 Tryz.sizeOf157 Tryz.isAgg157 (by omega) (show _ = some (Value.func (.func 137) #[] #[]) from by rw [hk] <;> rfl)) ?_
    refine w_x rfl (fun w1 h1 => x_load rfl (ld_blk ((S6.step h1).blk 1 rfl) Tryz.isAgg82 rfl)) ?_
    refine w_x rfl (fun w1 h1 => x_load rfl (ld_blks ((S6.step h1).blk 2 rfl) Tryz.isAgg45 Tryz.sizeOf45 rfl rfl)) ?_
    refine w_nil ?_
    intro w51 hl52
    have S53 := S6.step hl52
    refine l_callP [] [] [_, _] rfl rfl Tryz.call137 rfl (c_redeem b n s a hf hB hk _ (S53.lend 0 rfl)) ?_ ?_
    · skip
      rintro _ w54 ⟨n', s', hdo, hb56⟩
      have S55 := S53.back 0 rfl hb56
      refine l_nil ?_
      refine r_endU rfl ?_
      refine leave_defer rfl Tryz.call117 (by intro h; cases h) ?_
      change Dl _ _ #[.pointer (some ⟨b4, 0, none⟩), .pointer (some ⟨b8, 0, none⟩)] _ _ _
      refine (c_try0 _ _ _).mono ?_
      rintro _ wl ⟨rfl, hll⟩
      have Sl := S55.step hll
      refine leaveU_done (rs := []) [] Tryz.func101 rfl trivial ?_
      exact ⟨n', by rw [try_some hdo]; exact Sl.take 1⟩
    rintro _ w57 k ⟨rfl, hdo, n', hb59⟩
    have S58 := S53.back 0 rfl hb59
    refine leave_defer rfl Tryz.call117 (by intro h; cases h) ?_
    change Dl _ _ #[.pointer (some ⟨b4, 0, none⟩), .pointer (some ⟨b8, 0, none⟩)] _ _ _
    refine (c_try1 b n' s a _ _ hil (fun hq => S58.dj 0 1 _ _ rfl rfl (by decide) _ hq rfl) (fun hq => S58.dj 0 2 _ _ rfl rfl (by decide) _ hq rfl) _ (S58.blk 1 rfl) (S58.blk 2 rfl) (S58.lend 0 rfl)).mono ?_
    rintro _ wl ⟨rfl, n2, hl2⟩
    have Sl := S58.back 0 rfl hl2
    refine leaveU_done (rs := []) [] Tryz.func101 rfl trivial ?_
    exact ⟨n2, by rw [try_none hdo]; exact Sl.take 1⟩
  refine r_drawR 6 Tryz.mixed (by kernel_rfl) ?_
  refine wd_call [] [] [] rfl rfl Tryz.call118 rfl (fun w1 h1 => c_kinds _) ?_
  refine w_x rfl (fun w1 h1 => x_fieldAddr rfl Tryz.runUnderlying45 rfl Tryz.sizeOf5 (by decide)) ?_
  refine w_x rfl (fun w1 h1 => x_load rfl (ld_blk ((S6.step h1).blk 2 rfl) Tryz.isAgg5 rfl)) ?_
  refine w_x rfl (fun w1 h1 => x_part rfl rfl Tryz.runUnderlying158 Tryz.sizeOf157 Tryz.isAgg157 (by omega) (show _ = some (Value.func (.func 138) #[] #[]) from by rw [hk] <;> rfl)) ?_
  refine w_x rfl (fun w1 h1 => x_load rfl (ld_blk ((S6.step h1).blk 1 rfl) Tryz.isAgg82 rfl)) ?_
  refine w_x rfl (fun w1 h1 => x_load rfl (ld_blks ((S6.step h1).blk 2 rfl) Tryz.isAgg45 Tryz.sizeOf45 rfl rfl)) ?_
  refine w_nil ?_
  intro w60 hl61
  have S62 := S6.step hl61
  refine l_callP [] [] [_, _] rfl rfl Tryz.call138 rfl (c_seize b n s a hf hB hk _ (S62.lend 0 rfl)) ?_ ?_
  · skip
    rintro _ w63 ⟨n', s', hdo, hb65⟩
    have S64 := S62.back 0 rfl hb65
    refine l_nil ?_
    refine r_endU rfl ?_
    refine leave_defer rfl Tryz.call117 (by intro h; cases h) ?_
    change Dl _ _ #[.pointer (some ⟨b4, 0, none⟩), .pointer (some ⟨b8, 0, none⟩)] _ _ _
    refine (c_try0 _ _ _).mono ?_
    rintro _ wl ⟨rfl, hll⟩
    have Sl := S64.step hll
    refine leaveU_done (rs := []) [] Tryz.func101 rfl trivial ?_
    exact ⟨n', by rw [try_some hdo]; exact Sl.take 1⟩
  rintro _ w66 k ⟨rfl, hdo, n', hb68⟩
  have S67 := S62.back 0 rfl hb68
  refine leave_defer rfl Tryz.call117 (by intro h; cases h) ?_
  change Dl _ _ #[.pointer (some ⟨b4, 0, none⟩), .pointer (some ⟨b8, 0, none⟩)] _ _ _
  refine (c_try1 b n' s a _ _ hil (fun hq => S67.dj 0 1 _ _ rfl rfl (by decide) _ hq rfl) (fun hq => S67.dj 0 2 _ _ rfl rfl (by decide) _ hq rfl) _ (S67.blk 1 rfl) (S67.blk 2 rfl) (S67.lend 0 rfl)).mono ?_
  rintro _ wl ⟨rfl, n2, hl2⟩
  have Sl := S67.back 0 rfl hl2
  refine leaveU_done (rs := []) [] Tryz.func101 rfl trivial ?_
  exact ⟨n2, by rw [try_none hdo]; exact Sl.take 1⟩

end Go.Proofs

/-
  Contracts of functions of the program: each by symbolic execution of its text.
-/
namespace Go.Proofs
open Go Go.Vk Go.Vk.Flow

open Go.Vk.Deed
/-- The deeds of a list that are dated up to a day. -/
def untl (day : Int) (rs : List Rw) : List Rw := rs.filter fun a => decide (a.1.day ≤ day)
theorem untl_take {rs : List Rw} {day : Int} {i : Nat} {a : Rw} (h : rs[i]? = some a) : untl day (rs.take (i + 1)) = untl day (rs.take i) ++ if a.1.day ≤ day then [a] else [] := by
  rw [take_snoc rs i (List.getElem?_eq_some_iff.1 h).1, (List.getElem?_eq_some_iff.1 h).2, untl, List.filter_append]
  by_cases hd : a.1.day ≤ day <;> simp [untl, hd]
theorem untl_split (rs : List Rw) (day : Int) (i : Nat) : untl day rs = untl day (rs.take i) ++ untl day (rs.drop i) := by
  unfold untl; rw [← List.filter_append, List.take_append_drop]
theorem untl_dl (rs : List Rw) (day : Int) : dl (untl day rs) = (dl rs).filter fun x => decide (x.day ≤ day) := by
  unfold dl untl; rw [List.filter_map]; rfl
theorem untl_mem {rs : List Rw} {day : Int} {a : Rw} (h : a ∈ untl day rs) : a ∈ rs := (List.mem_filter.1 h).1

set_option maxHeartbeats 2000000 in
/-- couchant/deed.until$1. -/
theorem c_until1 (rs : List Rw) (vl : Value) (day : Int) (b1 b2 yl : Nat) (X : Nat → Prop) (u : World) (hD : ∀ wz, Keep X u wz → DsR 45 3 wz vl rs) (R : List Rw → Rsc → Prop)
    (hy : ∀ t r a w1, R t r → (∃ s, untl day rs = t ++ a :: s) → Keep X u w1 → Own r.fp w1 w1 [r] → Yl Tryz.prog yl [.agg (encD a).toArray].toArray w1 fun v w2 => ∃ r', v = .bool true ∧ R (t ++ [a]) r' ∧ Own r.fp w1 w2 [r']) (r : Rsc) (hr : R [] r) (w : World) (S : Own X u w [blk b1 [vl] 22, blk b2 [.int .i64 day] 3, r]) :
    Cl Tryz.prog 116 #[.func (.yield yl) #[] #[], .pointer (some ⟨b1, 0, none⟩), .pointer (some ⟨b2, 0, none⟩)] w fun _ w' => ∃ r', R (untl day rs) r' ∧ Own X u w' [blk b1 [vl] 22, blk b2 [.int .i64 day] 3, r'] := by
  have hml := (hD _ S.keep).lm
  refine fn_of_run (args := [_, _, _]) 23 Tryz.func116 rfl rfl rfl fun cs => ?_
  refine r_seq ?_
  refine r_region ?_
  refine l_x rfl (x_load rfl (ld_blk (S.blk 0 rfl) Tryz.isAgg22 rfl)) ?_
  refine l_x rfl (x_len (hD _ S.keep).rd rfl Tryz.runUnderlying22) ?_
  refine l_x rfl (x_mv rfl) ?_
  refine l_nil ?_
  refine r_block ?_
  refine r_loop (G := Nat × Rsc) (fun ⟨i, r1⟩ => rs.length - i) (fun ⟨i, r1⟩ => [(0, .func (.yield yl) #[] #[]), (1, .pointer (some ⟨b1, 0, none⟩)), (2, .pointer (some ⟨b2, 0, none⟩)), (6, vl), (8, .int .i64 i), (7, .int .i64 rs.length)]) (fun ⟨i, r1⟩ w' => (i ≤ rs.length) ∧ (R (untl day (rs.take i)) r1) ∧ Own X u w' [blk b1 [vl] 22, blk b2 [.int .i64 day] 3, r1]) (0, r) ⟨rfl, rfl, rfl, rfl, rfl, rfl, trivial⟩ ⟨Nat.zero_le _, by simpa [untl] using hr, (S.take 3)⟩ ?_
  rintro ⟨i, r1⟩ ρ w1 ⟨hi, hR, S1⟩ IH
  refine r_seq ?_
  refine r_region ?_
  refine l_x rfl (x_lss rfl rfl) ?_
  refine l_nil ?_
  refine r_seq ?_
  refine r_ifd rfl (fun hc9 => ?_) (fun hc9 => ?_)
  · skip
    obtain ⟨a, ha⟩ : ∃ a, rs[i]? = some a := ⟨_, List.getElem?_eq_getElem (by omega)⟩
    refine r_skip ?_
    refine r_seq ?_
    refine r_block ?_
    refine r_seq ?_
    refine r_region ?_
    refine l_index ED rfl (hD _ S1.keep).rd rfl rfl Tryz.runUnderlying22 Tryz.sizeOf45 (by omega) ha ?_
    intro b1 o2 hat3 row4
    refine l_x rfl (x_load rfl (ld_row Tryz.isAgg45 Tryz.sizeOf45 rfl row4)) ?_
    refine l_alloc S1 rfl Tryz.zeroValue45 rfl ?_
    intro b8 w5 S6 hl7
    refine l_stores (vs := [_, _, _, _, _, _, _, _, _, _, _]) S6 3 rfl rfl rfl rfl (ones_cons rfl (ones_cons rfl (ones_cons rfl (ones_cons rfl (ones_cons rfl (ones_cons rfl (ones_cons rfl (ones_cons rfl (ones_cons rfl (ones_cons (Rd.one ((hD _ S6.keep).sub _ (List.mem_of_getElem? ha)).1) (ones_cons (Rd.one ((hD _ S6.keep).sub _ (List.mem_of_getElem? ha)).2) ones_nil))))))))))) Tryz.sizeOf45 (by first | exact Nat.le_refl _ | simp) (splice_all rfl) ?_
    intro w9 S10 hk11
    refine l_nil ?_
    refine r_seq ?_
    refine r_region ?_
    refine l_x rfl (x_fieldAddr rfl Tryz.runUnderlying45 rfl Tryz.sizeOf3 (by decide)) ?_
    refine l_x rfl (x_load rfl (ld_blk (S10.blk 3 rfl) Tryz.isAgg3 rfl)) ?_
    refine l_x rfl (x_load rfl (ld_blk (S10.blk 1 rfl) Tryz.isAgg3 rfl)) ?_
    refine l_x rfl (x_leq rfl rfl) ?_
    refine l_x rfl (x_mv rfl) ?_
    refine l_splitd (d := 16) rfl (fun hg16 => ?_) (fun hg16 => ?_)
    · skip
      refine l_x rfl (x_mv rfl) ?_
      refine l_x rfl (x_load rfl (ld_blks (S10.blk 3 rfl) Tryz.isAgg45 Tryz.sizeOf45 rfl rfl)) ?_
      refine l_yield [_] rfl rfl rfl (hy (untl day (rs.take i)) r1 a _ hR ⟨_, by rw [untl_split rs day (i + 1), untl_take ha, if_pos (by simpa using hg16), List.append_assoc]; rfl⟩ S10.keep (S10.lend 2 rfl)) ?_
      rintro _ w12 ⟨r15, rfl, hRr15, hback13⟩
      have S14 := S10.back 2 rfl hback13
      refine l_x rfl (x_not rfl) ?_
      refine l_x rfl (x_pick_t rfl rfl) ?_
      refine l_nil ?_
      refine r_false rfl ?_
      refine r_skip ?_
      refine r_inBlock ?_
      refine r_region ?_
      refine l_x rfl (x_add rfl rfl (by omega)) ?_
      refine l_x rfl (x_mv rfl) ?_
      refine l_nil ?_
      exact IH (i + 1, r15) _ _ (by dsimp only; omega) ⟨rfl, rfl, rfl, rfl, rfl, rfl, trivial⟩ ⟨by omega, by rw [untl_take ha, if_pos (by simpa using hg16)]; exact hRr15, (S14.take 3)⟩
    refine l_pass rfl ?_
    refine l_pass rfl ?_
    refine l_pass rfl ?_
    refine l_pass rfl ?_
    refine l_x rfl (x_pick_f rfl rfl) ?_
    refine l_nil ?_
    refine r_false rfl ?_
    refine r_skip ?_
    refine r_inBlock ?_
    refine r_region ?_
    refine l_x rfl (x_add rfl rfl (by omega)) ?_
    refine l_x rfl (x_mv rfl) ?_
    refine l_nil ?_
    exact IH (i + 1, r1) _ _ (by dsimp only; omega) ⟨rfl, rfl, rfl, rfl, rfl, rfl, trivial⟩ ⟨by omega, by rw [untl_take ha, if_neg (by simpa using hg16), List.append_nil]; exact hR, (S10.take 3)⟩
  have hi : i = rs.length := by omega
  subst hi
  rw [List.take_length] at hR
  refine r_exit rfl ?_
  refine r_end (rs := []) [] Tryz.func116 rfl trivial ?_
  exact ⟨_, hR, S1⟩

/-- couchant/deed.until. -/
theorem c_until (rs : List Rw) (vl : Value) (day : Int) (w : World) (hD : DsR 45 3 w vl rs) :
    Cl Tryz.prog 100 #[vl, .int .i64 day] w fun v w' => ∃ b1 b2, v = .func (.func 116) #[] #[.pointer (some ⟨b1, 0, none⟩), .pointer (some ⟨b2, 0, none⟩)] ∧ Own nob w w' [blk b1 [vl] 22, blk b2 [.int .i64 day] 3] := by
  refine fn_of_run (args := [_, _]) 6 Tryz.func100 rfl rfl rfl fun cs => ?_
  have S := Own.start (X := nob) w
  refine r_seq ?_
  refine r_region ?_
  refine l_box S rfl (Rd.cells (hD.rd.le S.le)) ?_
  intro b4 w1 S2 hl3
  refine l_box S2 rfl rfl ?_
  intro b8 w5 S6 hl7
  refine l_x rfl (x_as rfl) ?_
  refine l_nil ?_
  refine r_seq ?_
  refine r_region ?_
  refine l_x rfl (x_func rfl rfl) ?_
  refine l_x rfl (x_as rfl) ?_
  refine l_nil ?_
  refine r_ret (rs := [.tmp 4]) [_] Tryz.func100 rfl ⟨rfl, trivial⟩ ?_
  exact ⟨_, _, rfl, S6⟩

theorem rollok_nil (a b c : Nat) (v v' : Value) : RollOk ⟨a, b, c, v, v', []⟩ St.nil mnil mnil fun _ => mnil :=
  ⟨fun _ => rfl, nofun, fun _ => rfl, fun _ _ => rfl, nofun, fun _ _ _ => rfl, List.nodup_nil⟩

set_option maxHeartbeats 2000000 in
/-- couchant/deed.done. -/
theorem c_done (rs : List Rw) (vl : Value) (day : Int) (hP : PlayL (dl rs)) (w : World) (hD : DsR 45 3 w vl rs) :
    Cl Tryz.prog 69 #[vl, .int .i64 day] w fun v w' => ∃ b n, v = .pointer (some ⟨b, 0, none⟩) ∧ Own nob w w' [rollS TY b n (doneD (dl rs) day)] := by
  have hPl : PlayL (dl (untl day rs)) := by rw [untl_dl]; exact hP.filter _
  refine fn_of_run (args := [_, _]) 20 Tryz.func69 rfl rfl rfl fun cs => ?_
  have S := Own.start (X := nob) w
  refine r_seq ?_
  refine r_region ?_
  refine l_x rfl (x_as rfl) ?_
  refine l_nil ?_
  refine r_seq ?_
  refine r_region ?_
  refine l_makeMap kInt kInt S rfl ?_
  intro m4 w1 S2 hl3
  refine l_makeMap kInt plV S2 rfl ?_
  intro m8 w5 S6 hl7
  refine l_makeMap kInt mV S6 rfl ?_
  intro m12 w9 S10 hl11
  refine l_x rfl (x_buildS (out := [_, _, _, _, _]) (ss := [1, 1, 1, 1, 1]) Tryz.zeroValue81 rfl Tryz.runUnderlying81 ⟨Tryz.sizeOf76, Tryz.sizeOf77, Tryz.sizeOf78, Tryz.sizeOf23, Tryz.sizeOf79, trivial⟩ (fill_cons rfl rfl rfl (Nat.le_of_ble_eq_true rfl) (fill_cons rfl rfl rfl (Nat.le_of_ble_eq_true rfl) (fill_cons rfl rfl rfl (Nat.le_of_ble_eq_true rfl) fill_nil)))) ?_
  refine l_box S10 rfl rfl ?_
  intro b16 w13 S14 hl15
  refine l_alloc S14 rfl Tryz.zeroValue82 rfl ?_
  intro b20 w17 S18 hl19
  refine l_storeq (c' := [_]) S18 4 rfl rfl rfl rfl rfl Tryz.sizeOf82 (by first | (simp; done) | exact Nat.le_of_ble_eq_true rfl) rfl ?_
  intro w21 S22 hk23
  refine l_nil ?_
  refine r_seq ?_
  refine r_seq ?_
  refine r_region ?_
  refine l_x rfl (x_mv rfl) ?_
  refine l_x rfl (x_mv rfl) ?_
  refine l_call [] [] [_, _] rfl rfl Tryz.call100 rfl (c_until rs vl day _ (hD.le S22.le)) ?_
  rintro _ w24 ⟨b27, b28, rfl, h26⟩
  have S25 := S22.join h26
  have Sn := ((Own.nilvec (E := EI) (Own.nilvec (E := ELS) S25)).nopack)
  have S29 := Sn.pick (L' := [_, _, _, _, _, _, _, _, _, _]) [5, 6, 4, 3, 0, 7, 1, 8, 2, 9] (by decide) rfl
  have hok0 : RollOk ⟨m4, m8, m12, (.slice none 0 0), (.slice none 0 0), []⟩ St.nil mnil mnil fun _ => mnil := rollok_nil _ _ _ _ _
  have Sr : Own _ _ _ ([_, _, _] ++ [rollS TY b16 _ St.nil]) := Own.rollShut (A := [_, _, _]) (s := St.nil) S29 hok0
  refine l_nil ?_
  refine r_block ?_
  refine r_rangeFunc [] [_, _] Sr rfl rfl Tryz.call116 ?_
  intro D30 l31 w32 S33 hl34
  have S35 : Own _ _ _ [_, _, _, _, _, _] := S33.pick [0, 1, 2, 3, 4, 5] (by decide) rfl
  have S36 := Own.pack (A := [_, _]) (L := [_, _, _, _]) S35
  refine (c_until1 rs vl day _ _ _ nob w (fun _ hk => hD.le hk) (fun t r => (∃ n1, r = pack [blk b20 [_] 82, rollS TY b16 n1 (play (dl t)), _, _]) ∧ ∀ c, r.fp c → w.heap.size ≤ c) ?_ _ ⟨⟨_, rfl⟩, fun c hc => ((S36).bd 2 _ rfl c hc).2.resolve_right id⟩ _ S36).mono ?_
  · skip
    rintro t _ a w1 ⟨⟨n1, rfl⟩, hfp⟩ ⟨s, hin⟩ hle hS
    have S37 := hS.open
    have hPa : PlayOk (dl t) a.1 := PlayL.at (r := dl s) (by rw [hin] at hPl; simpa [dl] using hPl)
    have ham : a ∈ rs := untl_mem (by rw [hin]; simp)
    refine yl_of_run (S37.obj 3 rfl) rfl (fun c cs => ?_)
    refine r_region ?_
    refine l_alloc S37 rfl Tryz.zeroValue45 rfl ?_
    intro b41 w38 S39 hl40
    refine l_stores (vs := [_, _, _, _, _, _, _, _, _, _, _]) S39 4 rfl rfl rfl rfl (ones_cons rfl (ones_cons rfl (ones_cons rfl (ones_cons rfl (ones_cons rfl (ones_cons rfl (ones_cons rfl (ones_cons rfl (ones_cons rfl (ones_cons (Rd.one ((hD.sub a ham).1.le ((S39.old hle hfp)))) (ones_cons (Rd.one ((hD.sub a ham).2.le ((S39.old hle hfp)))) ones_nil))))))))))) Tryz.sizeOf45 (by first | exact Nat.le_refl _ | simp) (splice_all rfl) ?_
    intro w42 S43 hk44
    refine l_nil ?_
    refine r_beginRound S43 3 rfl rfl ?_
    intro w45 S46 hk47
    refine r_block ?_
    refine r_region ?_
    refine l_x rfl (x_load rfl (ld_blk (S46.blk 0 rfl) Tryz.isAgg82 rfl)) ?_
    refine l_x rfl (x_load rfl (ld_blks (S46.blk 4 rfl) Tryz.isAgg45 Tryz.sizeOf45 rfl rfl)) ?_
    refine l_call [] [] [_, _] rfl rfl Tryz.call101 rfl (c_try _ n1 (play (dl t)) a hPa.f hPa.k hPa.b hPa.il hPa.nw hPa.m w (hD.sub a ham) _ (S46.lend 1 rfl) (S46.old hle hfp) (fun c hc => hfp c ⟨_, List.mem_cons_of_mem _ (List.mem_cons_self ..), hc⟩)) ?_
    rintro _ w48 ⟨n51, hb50⟩
    have S49 := S46.back 1 rfl hb50
    refine l_nil ?_
    refine r_inBlock ?_
    refine r_roundEnd S49 3 rfl ?_
    intro w52 S53
    have hpl : play (dl (t ++ [a])) = try1 (play (dl t)) a.1 := by rw [dl, List.map_append]; exact play_snoc
    have hC := (S53.take 4).close
    exact ⟨_, rfl, ⟨⟨n51, hpl ▸ rfl⟩, fun c hc => (hC.bd 0 _ rfl c hc).2.elim (fun h => Nat.le_trans hle.size h) (hfp c)⟩, hC⟩
  rintro _ w54 ⟨_, ⟨⟨n2, rfl⟩, _⟩, hback55⟩
  have S56 := Own.unpack (A := [_, _]) (L := [_, _, _, _]) hback55
  refine r_endRange S56 5 rfl rfl ?_
  intro w57 S58 hk59
  refine r_inBlock ?_
  refine r_seq ?_
  refine r_region ?_
  refine l_x rfl (x_load rfl (ld_blk (S58.blk 2 rfl) Tryz.isAgg82 rfl)) ?_
  refine l_x rfl (x_as rfl) ?_
  refine l_nil ?_
  refine r_retL rfl ?_
  refine leave_mark S58 4 rfl ?_
  intro w60 S61 hk62
  refine leave_done (rs := [.tmp 4]) [_] Tryz.func69 rfl ⟨rfl, trivial⟩ ?_
  have hE : Own nob w _ [rollS TY _ _ (play (dl (untl day rs)))] := S61.pick [3] (by decide) rfl
  rw [untl_dl] at hE
  exact ⟨_, _, rfl, hE⟩

end Go.Proofs

/-
  Contracts of functions of the program: each by symbolic execution of its text.
-/
namespace Go.Proofs
open Go Go.Vk Go.Vk.Flow

open Go.Vk.Deed
theorem dsr_nil (w : World) : DsR 45 3 w (.slice none 0 0) [] := ⟨vec_rd (.inl ⟨rfl, rfl⟩), by simp, by simp⟩

set_option maxHeartbeats 2000000 in
/-- couchant/deed.on. -/
theorem c_on (rs : List Rw) (vl : Value) (known day : Int) (w : World) (hD : DsR 45 3 w vl rs) :
    Cl Tryz.prog 38 #[vl, .int .i64 known, .int .i64 day] w fun v w' => ∃ b n, v = .pointer (some ⟨b, 0, none⟩) ∧ Own nob w w' [rollS TY b n (onD (dl rs) known day)] := by
  refine fn_of_run (args := [_, _, _]) 17 Tryz.func38 rfl rfl rfl fun cs => ?_
  have S := Own.start (X := nob) w
  refine r_seq ?_
  refine r_region ?_
  refine l_x rfl (x_as rfl) ?_
  refine l_nil ?_
  refine r_seq ?_
  refine r_seq ?_
  refine r_region ?_
  refine l_x rfl (x_mv rfl) ?_
  refine l_call [] [] [_] rfl rfl Tryz.call39 rfl (c_right rs _ _ (hD.le S.le)) ?_
  rintro _ w1 ⟨rfl, hl3⟩
  have S2 := S.step hl3
  refine l_x rfl (x_not rfl) ?_
  refine l_nil ?_
  refine r_if rfl (fun hc9 => ?_) (fun hc9 => ?_)
  · skip
    have hR : rightD (dl rs) = false := by simpa using hc9
    refine r_seq ?_
    refine r_region ?_
    refine l_x rfl (x_mv rfl) ?_
    refine l_call [] [] [_, _] rfl rfl Tryz.call69 rfl (c_done [] (.slice none 0 0) day PlayL.nil _ (dsr_nil _)) ?_
    rintro _ w4 ⟨b7, n8, rfl, h6⟩
    have S5 := S2.join h6
    refine l_x rfl (x_as rfl) ?_
    refine l_nil ?_
    refine r_ret (rs := [.tmp 6]) [_] Tryz.func38 rfl ⟨rfl, trivial⟩ ?_
    exact ⟨_, _, rfl, by rw [onD, hR]; exact S5.pick [0] (by decide) rfl⟩
  have hR : rightD (dl rs) = true := by simpa using hc9
  refine r_skip ?_
  refine r_seq ?_
  refine r_region ?_
  refine l_x rfl (x_mv rfl) ?_
  refine l_x rfl (x_mv rfl) ?_
  refine l_call [] [] [_, _] rfl rfl Tryz.call41 rfl (c_counting rs _ known (right_asc hR) (by have := right_len hR; rw [dl_len] at this; exact this) _ (hD.le S2.le)) ?_
  rintro v149 w9 ⟨rq149, hq149, hm149, hN149, hl149⟩
  have S10 := S2.add hl149 hN149
  have hlq149 : rq149.length ≤ 400 := by rw [← dl_len, hq149]; exact count_len hR
  have hD2 := hD.mem S10.le (vec_rd (S10.at 0 rfl)) hm149 (by omega)
  have hP2 : PlayL (dl rq149) := by rw [hq149]; exact right_play hR
  have hq2 := hq149
  refine l_x rfl (x_mv rfl) ?_
  refine l_call [] [] [_, _] rfl rfl Tryz.call69 rfl (c_done _ _ day hP2 _ hD2) ?_
  rintro _ w11 ⟨b14, n15, rfl, h13⟩
  have S12 := S10.join h13
  refine l_x rfl (x_as rfl) ?_
  refine l_nil ?_
  refine r_ret (rs := [.tmp 6]) [_] Tryz.func38 rfl ⟨rfl, trivial⟩ ?_
  exact ⟨_, _, rfl, by rw [onD, hR]; rw [← hq2]; exact S12.pick [1] (by decide) rfl⟩

end Go.Proofs

/-
  Contracts of functions of the program: each by symbolic execution of its text.
-/
namespace Go.Proofs
open Go Go.Vk Go.Vk.Flow

open Go.Vk.Deed
theorem on_play (l : List D) (known day : Int) : ∃ t, PlayL t ∧ onD l known day = play t := by
  by_cases h : rightD l = true
  · exact ⟨_, (right_play (known := known) h).filter _, by rw [onD, if_pos h]; rfl⟩
  exact ⟨[], PlayL.nil, by rw [onD, if_neg h]; rfl⟩
theorem on_stb (l : List D) (known day : Int) : StB (onD l known day) := by
  obtain ⟨t, h, e⟩ := on_play l known day
  rw [e]; exact (play_inv _ rfl h).stb h.e h.len
/-- couchant/deed.AccountOf. -/
theorem c_AccountOf (rs : List Rw) (vl : Value) (known : Int) (day o : Int) (w : World) (hD : DsR 45 3 w vl rs) :
    Cl Tryz.prog 22 #[vl, .int .i64 known, .int .i64 day, .int .i64 o] w fun v w' => v = .agg (encAc (accOf (dl rs) known day o)).toArray ∧ Le w w' := by
  have hB := on_stb (dl rs) known day
  refine fn_of_run (args := [_, _, _, _]) 26 Tryz.func22 rfl rfl rfl fun cs => ?_
  have S := Own.start (X := nob) w
  refine r_seq ?_
  refine r_region ?_
  refine l_alloc S rfl Tryz.zeroValue62 rfl ?_
  intro b4 w1 S2 hl3
  refine l_nil ?_
  refine r_seq ?_
  refine r_seq ?_
  refine r_region ?_
  refine l_x rfl (x_mv rfl) ?_
  refine l_buildSlice EI [o] S2 rfl Tryz.runUnderlying23 Tryz.sizeOf3 Tryz.zeroValue3 rfl ⟨rfl, rfl, trivial⟩ (Nat.le_of_ble_eq_true rfl) ?_
  intro v8 w5 S6 hl7
  refine l_call [] [] [_] rfl rfl Tryz.call42 rfl (c_owned _ _ (by first | omega | exact Nat.le_of_ble_eq_true rfl) _ (vec_rd (S6.at 1 rfl))) ?_
  rintro _ w9 ⟨rfl, hl11⟩
  have S10 := S6.step hl11
  refine l_x rfl (x_not rfl) ?_
  refine l_x rfl (x_mv rfl) ?_
  refine l_split (d := 13) rfl (fun hg13 => ?_) (fun hg13 => ?_)
  · skip
    refine l_pass rfl ?_
    refine l_pass rfl ?_
    refine l_pass rfl ?_
    refine l_x rfl (x_pick_t rfl rfl) ?_
    refine l_nil ?_
    refine r_true rfl ?_
    refine r_seq ?_
    refine r_region ?_
    refine l_x rfl (x_buildS (out := [_, _, _, _, _]) (ss := [1, 1, 1, 1, 1]) Tryz.zeroValue62 rfl Tryz.runUnderlying62 ⟨Tryz.sizeOf3, Tryz.sizeOf3, Tryz.sizeOf3, Tryz.sizeOf3, Tryz.sizeOf3, trivial⟩ fill_nil) ?_
    refine l_stores (vs := [_, _, _, _, _]) S10 0 rfl rfl rfl rfl (ones_cons rfl (ones_cons rfl (ones_cons rfl (ones_cons rfl (ones_cons rfl ones_nil))))) Tryz.sizeOf62 (by first | exact Nat.le_refl _ | simp) (splice_all rfl) ?_
    intro w12 S13 hk14
    refine l_nil ?_
    refine r_ret (rs := [.cell 8 62]) [_] Tryz.func22 rfl ⟨⟨_, rfl, (ld_blks (S13.blk 0 rfl) Tryz.isAgg62 Tryz.sizeOf62 rfl rfl)⟩, trivial⟩ ?_
    exact ⟨by rw [accOf, if_neg (by simp_all)]; rfl, S13.le⟩
  refine l_x rfl (x_mv rfl) ?_
  refine l_call [] [] [_] rfl rfl Tryz.call39 rfl (c_right rs _ _ (hD.le S10.le)) ?_
  rintro _ w15 ⟨rfl, hl17⟩
  have S16 := S10.step hl17
  refine l_x rfl (x_not rfl) ?_
  refine l_x rfl (x_pick_f rfl rfl) ?_
  refine l_nil ?_
  refine r_if rfl (fun hc17 => ?_) (fun hc17 => ?_)
  · skip
    refine r_seq ?_
    refine r_region ?_
    refine l_x rfl (x_buildS (out := [_, _, _, _, _]) (ss := [1, 1, 1, 1, 1]) Tryz.zeroValue62 rfl Tryz.runUnderlying62 ⟨Tryz.sizeOf3, Tryz.sizeOf3, Tryz.sizeOf3, Tryz.sizeOf3, Tryz.sizeOf3, trivial⟩ fill_nil) ?_
    refine l_stores (vs := [_, _, _, _, _]) S16 0 rfl rfl rfl rfl (ones_cons rfl (ones_cons rfl (ones_cons rfl (ones_cons rfl (ones_cons rfl ones_nil))))) Tryz.sizeOf62 (by first | exact Nat.le_refl _ | simp) (splice_all rfl) ?_
    intro w18 S19 hk20
    refine l_nil ?_
    refine r_ret (rs := [.cell 8 62]) [_] Tryz.func22 rfl ⟨⟨_, rfl, (ld_blks (S19.blk 0 rfl) Tryz.isAgg62 Tryz.sizeOf62 rfl rfl)⟩, trivial⟩ ?_
    exact ⟨by rw [accOf, if_neg (by simp_all)]; rfl, S19.le⟩
  refine r_skip ?_
  refine r_seq ?_
  refine r_region ?_
  refine l_x rfl (x_mv rfl) ?_
  refine l_x rfl (x_mv rfl) ?_
  refine l_x rfl (x_mv rfl) ?_
  refine l_call [] [] [_, _, _] rfl rfl Tryz.call38 rfl (c_on rs vl known day _ (hD.le S16.le)) ?_
  rintro _ w21 ⟨b26, n27, rfl, h25⟩
  have S22 := S16.join h25
  obtain ⟨hs, pf, sf, hok, S23⟩ := Own.rollOpen (A := [_, _]) S22
  have S24 := S23.pack
  refine l_x rfl (x_mv rfl) ?_
  refine l_x rfl (x_mv rfl) ?_
  refine l_call [] [] [_, _, _] rfl rfl Tryz.call56 rfl (c_account _ _ _ hs pf sf _ _ hB _ (RollRO.mk hok (S24.ro 2 rfl))) ?_
  rintro _ w28 ⟨rfl, hl30⟩
  have S29 := S24.step hl30
  refine l_stores (vs := [_, _, _, _, _]) S29 0 rfl rfl rfl rfl (ones_cons rfl (ones_cons rfl (ones_cons rfl (ones_cons rfl (ones_cons rfl ones_nil))))) Tryz.sizeOf62 (by first | exact Nat.le_refl _ | simp) (splice_all rfl) ?_
  intro w31 S32 hk33
  refine l_nil ?_
  refine r_ret (rs := [.cell 8 62]) [_] Tryz.func22 rfl ⟨⟨_, rfl, (ld_blks (S32.blk 0 rfl) Tryz.isAgg62 Tryz.sizeOf62 rfl rfl)⟩, trivial⟩ ?_
  exact ⟨by rw [accOf, if_pos (by simp_all)]; rfl, S32.le⟩

theorem accOf_bd (l : List D) (known day o : Int) : (-2000000000000 ≤ (accOf l known day o).holds ∧ (accOf l known day o).holds ≤ 2000000000000) ∧ (-2000000000000 ≤ (accOf l known day o).out ∧ (accOf l known day o).out ≤ 2000000000000) ∧ (-2000000000000 ≤ (accOf l known day o).inn ∧ (accOf l known day o).inn ≤ 2000000000000) ∧ (-2000000000000 ≤ (accOf l known day o).pledged ∧ (accOf l known day o).pledged ≤ 2000000000000) := by
  have hB := on_stb l known day
  rw [accOf]
  split
  · have h1 := hB.outS (o := o) (day := day)
    have h2 := hB.pledged (o := o)
    have h3 := hB.hb o
    have h4 := hB.inS (o := o) (day := day)
    simp only [acc]; omega
  simp

/-- couchant/deed.Uses. -/
theorem c_Uses (rs : List Rw) (vl : Value) (known : Int) (day o : Int) (w : World) (hD : DsR 45 3 w vl rs) :
    Cl Tryz.prog 8 #[vl, .int .i64 known, .int .i64 day, .int .i64 o] w fun v w' => v = .int .i64 (usesD (dl rs) known day o) ∧ Le w w' := by
  have hbd := accOf_bd (dl rs) known day o
  refine fn_of_run (args := [_, _, _, _]) 23 Tryz.func8 rfl rfl rfl fun cs => ?_
  have S := Own.start (X := nob) w
  refine r_seq ?_
  refine r_region ?_
  refine l_x rfl (x_as rfl) ?_
  refine l_nil ?_
  refine r_seq ?_
  refine r_region ?_
  refine l_x rfl (x_mv rfl) ?_
  refine l_x rfl (x_mv rfl) ?_
  refine l_x rfl (x_mv rfl) ?_
  refine l_x rfl (x_mv rfl) ?_
  refine l_call [] [] [_, _, _, _] rfl rfl Tryz.call22 rfl (c_AccountOf rs vl known day o _ (hD.le S.le)) ?_
  rintro _ w1 ⟨rfl, hl3⟩
  have S2 := S.step hl3
  refine l_alloc S2 rfl Tryz.zeroValue62 rfl ?_
  intro b7 w4 S5 hl6
  refine l_stores (vs := [_, _, _, _, _]) S5 0 rfl rfl rfl rfl (ones_cons rfl (ones_cons rfl (ones_cons rfl (ones_cons rfl (ones_cons rfl ones_nil))))) Tryz.sizeOf62 (by first | exact Nat.le_refl _ | simp) (splice_all rfl) ?_
  intro w8 S9 hk10
  refine l_nil ?_
  refine r_seq ?_
  refine r_region ?_
  refine l_x rfl (x_fieldAddr rfl Tryz.runUnderlying62 rfl Tryz.sizeOf3 (by decide)) ?_
  refine l_x rfl (x_load rfl (ld_blk (S9.blk 0 rfl) Tryz.isAgg3 rfl)) ?_
  refine l_x rfl (x_fieldAddr rfl Tryz.runUnderlying62 rfl Tryz.sizeOf3 (by decide)) ?_
  refine l_x rfl (x_load rfl (ld_blk (S9.blk 0 rfl) Tryz.isAgg3 rfl)) ?_
  refine l_x rfl (x_sub rfl rfl (by omega)) ?_
  refine l_x rfl (x_fieldAddr rfl Tryz.runUnderlying62 rfl Tryz.sizeOf3 (by decide)) ?_
  refine l_x rfl (x_load rfl (ld_blk (S9.blk 0 rfl) Tryz.isAgg3 rfl)) ?_
  refine l_x rfl (x_add rfl rfl (by omega)) ?_
  refine l_x rfl (x_as rfl) ?_
  refine l_nil ?_
  refine r_ret (rs := [.tmp 8]) [_] Tryz.func8 rfl ⟨rfl, trivial⟩ ?_
  exact ⟨rfl, S9.le⟩


end Go.Proofs

/-
  Contracts of functions of the program: each by symbolic execution of its text.
-/
namespace Go.Proofs
open Go Go.Vk Go.Vk.Flow

open Go.Vk.Deed
abbrev lateP (a : Rw) : Bool := decide (a.1.kind ≠ 8 ∧ a.1.day < a.1.known)
end Go.Proofs

/-
  Contracts of functions of the program: each by symbolic execution of its text.
-/
namespace Go.Proofs
open Go Go.Vk Go.Vk.Flow

open Go.Vk.Deed
theorem app_dl {rs rs1 : List Rw} {a : Rw} (h0 : (appendD (dl rs) a.1).1 = 0) (h1 : dl rs1 = (appendD (dl rs) a.1).2) (hs : ∀ x ∈ rs, x.1.heirs.length ≤ 9223372036854775807 ∧ x.1.shares.length ≤ 9223372036854775807) (ha : a.1.heirs.length ≤ 9223372036854775807 ∧ a.1.shares.length ≤ 9223372036854775807) :
    (∀ x ∈ rs1, x.1.heirs.length ≤ 9223372036854775807 ∧ x.1.shares.length ≤ 9223372036854775807) ∧ rs1.length ≤ 1000 := by
  unfold appendD at h0 h1
  split at h0
  · next h => exact absurd h0 h
  split at h0
  · next h => exact absurd h0 h
  next hc hf =>
  rw [if_neg hc, if_neg hf] at h1
  have hf2 := follows_formed (Decidable.not_not.1 hf)
  refine ⟨fun x hx => ?_, ?_⟩
  · have hm := mem_dl hx
    rw [h1] at hm
    rcases List.mem_append.1 hm with g | g
    · obtain ⟨y, hy, e⟩ := List.mem_map.1 g
      have := hs y hy
      rw [e] at this; exact this
    simp at g; rw [g]; exact ha
  rw [← dl_len, h1, List.length_append, List.length_singleton]; omega
end Go.Proofs

/-
  Contracts of functions of the program: each by symbolic execution of its text.
-/
namespace Go.Proofs
open Go Go.Vk Go.Vk.Flow

open Go.Vk.Deed
abbrev dayP (day : Int) (x : Ls) : Bool := decide (x.day ≤ day ∧ day ≤ x.stop)
end Go.Proofs

/-
  Contracts of functions of the program: each by symbolic execution of its text.
-/
namespace Go.Proofs
open Go Go.Vk Go.Vk.Flow

open Go.Vk.Deed
end Go.Proofs

/-
  Contracts of functions of the program: each by symbolic execution of its text.
-/
namespace Go.Proofs
open Go Go.Vk Go.Vk.Flow

open Go.Vk.Deed
theorem sum_map_opt (g : Int → Option Int) (l : List Int) : sumI ((l.filterMap fun o => (g o).map fun a => (o, a)).map (·.2)) = sumI (l.map fun o => (g o).getD 0) := by
  induction l with
  | nil => rfl
  | cons x l ih =>
    rw [List.map_cons, sumI_cons, List.filterMap_cons]
    cases h : g x with
    | none => simp [ih]
    | some a => simp [sumI_cons, ih]
theorem owners_nodup : owners.Nodup := by decide +kernel
theorem filterMap_keys (g : Int → Option Int) (l : List Int) (hn : l.Nodup) : ((l.filterMap fun o => (g o).map fun a => (o, a)).map (·.1)).Nodup := by
  have e : (l.filterMap fun o => (g o).map fun a => (o, a)).map (·.1) = l.filter fun o => (g o).isSome := by
    induction l with
    | nil => rfl
    | cons x l ih =>
      rw [List.filterMap_cons, List.filter_cons]
      rw [List.nodup_cons] at hn
      cases h : g x with
      | none => simp [ih hn.2]
      | some a => simp [ih hn.2]
  rw [e]; exact hn.sublist List.filter_sublist
theorem total_of {s : St} {hs : Int → Option Int} (h : ∀ o, (hs o).getD 0 = s.holds o) (hown : ∀ o a, hs o = some a → 1 ≤ o ∧ o ≤ 40) {vis : List (Int × Int)} (hv : Vis hs vis) (hall : ∀ k a, hs k = some a → (k, a) ∈ vis) :
    sumI (vis.map (·.2)) = sumI (owners.map s.holds) := by
  have hM : Vis hs (owners.filterMap fun o => (hs o).map fun a => (o, a)) := ⟨filterMap_keys hs owners owners_nodup, fun p hp => by
    obtain ⟨o, ho, e⟩ := List.mem_filterMap.1 hp
    cases g : hs o with
    | none => rw [g] at e; cases e
    | some a => rw [g] at e; cases e; exact g⟩
  have hMa : ∀ k a, hs k = some a → (k, a) ∈ owners.filterMap fun o => (hs o).map fun a => (o, a) := fun k a g =>
    List.mem_filterMap.2 ⟨k, mem_owners.2 (hown k a g), by rw [g]; rfl⟩
  rw [sumI_perm ((hv.perm hall hM hMa).map (·.2)), sum_map_opt]
  exact congrArg sumI (List.map_congr_left fun o _ => h o)
theorem total_bd {s : St} (hB : StB s) {hs : Int → Option Int} (h : ∀ o, (hs o).getD 0 = s.holds o) (hown : ∀ o a, hs o = some a → 1 ≤ o ∧ o ≤ 40) {vis : List (Int × Int)} (hv : Vis hs vis) :
    0 ≤ sumI (vis.map (·.2)) ∧ sumI (vis.map (·.2)) ≤ 100000000000000 := by
  have hl : vis.length ≤ 40 := by
    have h1 := nodup_le (l := vis.map (·.1)) (m := owners) hv.nd fun x hx => by
      obtain ⟨q, hq, rfl⟩ := List.mem_map.1 hx
      exact mem_owners.2 (hown _ _ (hv.of q hq))
    rw [List.length_map] at h1; exact h1
  have hb : ∀ q ∈ vis, 0 ≤ q.2 ∧ q.2 ≤ 1000000000000 := fun q hq => by
    have h1 := h q.1
    rw [hv.of q hq] at h1
    have := hB.hb q.1
    rw [← h1] at this
    simp only [Option.getD_some] at this; omega
  have key : ∀ l : List (Int × Int), (∀ q ∈ l, 0 ≤ q.2 ∧ q.2 ≤ 1000000000000) → 0 ≤ sumI (l.map (·.2)) ∧ sumI (l.map (·.2)) ≤ 1000000000000 * l.length := by
    intro l
    induction l with
    | nil => intro _; simp [sumI]
    | cons x l ih =>
      intro g
      have h1 := ih fun q hq => g q (List.mem_cons_of_mem _ hq)
      have h2 := g x (List.mem_cons_self ..)
      rw [List.map_cons, sumI_cons, List.length_cons]; omega
  have := key vis hb
  omega
theorem sumI_snoc (l : List Int) (x : Int) : sumI (l ++ [x]) = sumI l + x := by
  rw [sumI_perm (List.perm_append_comm : (l ++ [x]).Perm ([x] ++ l)), List.singleton_append, sumI_cons]; omega

set_option maxHeartbeats 2000000 in
/-- couchant/deed.Total. -/
theorem c_Total (rs : List Rw) (vl : Value) (known : Int) (day : Int) (w : World) (hD : DsR 45 3 w vl rs) :
    Cl Tryz.prog 15 #[vl, .int .i64 known, .int .i64 day] w fun v w' => v = .int .i64 (totalD (dl rs) known day) ∧ Le w w' := by
  have hB := on_stb (dl rs) known day
  refine fn_of_run (args := [_, _, _]) 26 Tryz.func15 rfl rfl rfl fun cs => ?_
  have S := Own.start (X := nob) w
  refine r_seq ?_
  refine r_region ?_
  refine l_x rfl (x_as rfl) ?_
  refine l_nil ?_
  refine r_seq ?_
  refine r_region ?_
  refine l_x rfl (x_as rfl) ?_
  refine l_nil ?_
  refine r_seq ?_
  refine r_seq ?_
  refine r_region ?_
  refine l_x rfl (x_mv rfl) ?_
  refine l_x rfl (x_mv rfl) ?_
  refine l_x rfl (x_mv rfl) ?_
  refine l_call [] [] [_, _, _] rfl rfl Tryz.call38 rfl (c_on rs vl known day _ (hD.le S.le)) ?_
  rintro _ w1 ⟨b7, n8, rfl, h6⟩
  have S2 := S.join h6
  obtain ⟨hs, pf, sf, hok, S3⟩ := Own.rollOpen (A := []) S2
  have S4 := S3.pick (L' := [_, _]) [0, 1] (by decide) rfl
  obtain ⟨es, clock, hm, hM⟩ := S4.at 1 rfl
  have S5 := S4.as 1 rfl (r' := obj n8.h (.map es clock)) hm (fun c h => h)
  refine l_x rfl (x_nilCheck rfl) ?_
  refine l_x rfl (x_fieldAddr rfl Tryz.runUnderlying81 rfl Tryz.sizeOf76 (by decide)) ?_
  refine l_x rfl (x_load rfl (ld_blk (S5.blk 0 rfl) Tryz.isAgg76 rfl)) ?_
  refine l_range kInt kInt S5 rfl Tryz.runUnderlying76 rfl (S5.obj 1 rfl) ?_
  intro it12 w9 S10 hl11
  refine l_nil ?_
  refine r_block ?_
  refine r_loop (G := List (Int × Int)) (fun vis => es.size - vis.length) (fun vis => [(7, .int .i64 (sumI (vis.map (·.2)))), (17, .pointer (some ⟨it12, 0, none⟩))]) (fun vis w' => (Vis hs vis) ∧ Own nob w w' [blk b7 (rollC n8) 81, obj n8.h (.map es clock), itr kInt kInt it12 n8.h es clock vis]) [] ⟨rfl, rfl, trivial⟩ ⟨.nil, (S10.take 3)⟩ ?_
  rintro vis ρ w1 ⟨hV, S1⟩ IH
  have hbd := total_bd hB hok.h hok.own hV
  refine r_seq ?_
  refine r_region ?_
  refine l_next S1 2 rfl rfl keyI (fun _ _ h => by cases h; rfl) hM rfl (S1.obj 1 rfl) (fun hAll => ?_) (fun c a w13 hfc hnew S14 hk15 => ?_)
  · skip
    refine l_x rfl (x_extract rfl rfl) ?_
    refine l_nil ?_
    refine r_seq ?_
    refine r_false rfl ?_
    refine r_exit rfl ?_
    refine r_seq ?_
    refine r_region ?_
    refine l_x rfl (x_mv rfl) ?_
    refine l_x rfl (x_as rfl) ?_
    refine l_nil ?_
    refine r_ret (rs := [.tmp 6]) [_] Tryz.func15 rfl ⟨rfl, trivial⟩ ?_
    exact ⟨congrArg (Value.int .i64) (total_of hok.h hok.own hV hAll), S1.le⟩
  have hlen := itr_len (S14.at 2 rfl)
  rw [List.length_append, List.length_singleton] at hlen
  have hV2 := hV.step hfc hnew
  have hbd2 := total_bd hB hok.h hok.own hV2
  rw [List.map_append, List.map_cons, List.map_nil, sumI_snoc] at hbd2
  dsimp only at hbd2
  refine l_x rfl (x_extract rfl rfl) ?_
  refine l_nil ?_
  refine r_seq ?_
  refine r_true rfl ?_
  refine r_skip ?_
  refine r_block ?_
  refine r_seq ?_
  refine r_region ?_
  refine l_x rfl (x_entry (S14.at 2 rfl) hM (S14.obj 1 rfl) rfl) ?_
  refine l_x rfl (x_extract rfl rfl) ?_
  refine l_x rfl (x_as rfl) ?_
  refine l_nil ?_
  refine r_region ?_
  refine l_x rfl (x_mv rfl) ?_
  refine l_x rfl (x_mv rfl) ?_
  refine l_x rfl (x_add rfl rfl (by omega)) ?_
  refine l_x rfl (x_as rfl) ?_
  refine l_nil ?_
  refine r_inBlock ?_
  exact IH (vis ++ [(c, a)]) _ _ (by rw [List.length_append, List.length_singleton]; omega) ⟨(congrArg (Value.int .i64) (by rw [List.map_append, List.map_cons, List.map_nil, sumI_snoc])), rfl, trivial⟩ ⟨hV2, (S14.take 3)⟩

end Go.Proofs

/-
  Contracts of functions of the program: each by symbolic execution of its text.
-/
namespace Go.Proofs
open Go Go.Vk Go.Vk.Flow

open Go.Vk.Deed
theorem owners_get {k : Nat} (h : k < 40) : owners[k]? = some ((k : Int) + 1) := by
  rw [owners, List.getElem?_map, List.getElem?_range h]; rfl
abbrev touP (l : List D) (a b day : Int) (o : Int) : Bool := decide (usesD l a day o ≠ usesD l b day o)
theorem owners_len : owners.length = 40 := by simp [owners]


/-- couchant/deed.meet$1. -/
theorem c_meet1 (b : List Int) (vb : Value) (x : Int) (bb : Nat) (hm : b.length ≤ 9223372036854775807) (w : World) (hb : Blk w bb [vb] 23) (hL : Rd EI w vb b) :
    Cl Tryz.prog 77 #[.int .i64 x, .pointer (some ⟨bb, 0, none⟩)] w fun v w' => v = .bool (b.contains x) ∧ Le w w' := by
  refine fn_of_run (args := [_, _]) 7 Tryz.func77 rfl rfl rfl fun cs => ?_
  have S := Own.start (X := nob) w
  refine r_seq ?_
  refine r_region ?_
  refine l_x rfl (x_as rfl) ?_
  refine l_nil ?_
  refine r_seq ?_
  refine r_region ?_
  refine l_x rfl (x_load rfl (ld_blk (hb.keep S.le id) Tryz.isAgg23 rfl)) ?_
  refine l_x rfl (x_mv rfl) ?_
  refine l_call [] [] [_, _] rfl rfl Tryz.call46 rfl (c_Contains _ _ _ (by omega) _ (hL.le S.le)) ?_
  rintro _ w1 ⟨rfl, hl3⟩
  have S2 := S.step hl3
  refine l_x rfl (x_as rfl) ?_
  refine l_nil ?_
  refine r_ret (rs := [.tmp 3]) [_] Tryz.func77 rfl ⟨rfl, trivial⟩ ?_
  exact ⟨rfl, S2.le⟩

/-- couchant/deed.meet. -/
theorem c_meet (a b : List Int) (va vb : Value) (hma : a.length ≤ 9223372036854775807) (hmb : b.length ≤ 9223372036854775807) (w : World) (hA : Rd EI w va a) (hL : Rd EI w vb b) :
    Cl Tryz.prog 44 #[va, vb] w fun v w' => v = .bool (meetB a b) ∧ Le w w' := by
  refine fn_of_run (args := [_, _]) 8 Tryz.func44 rfl rfl rfl fun cs => ?_
  have S := Own.start (X := nob) w
  refine r_seq ?_
  refine r_region ?_
  refine l_box S rfl (Rd.cells (hL.le S.le)) ?_
  intro b4 w1 S2 hl3
  refine l_x rfl (x_as rfl) ?_
  refine l_nil ?_
  refine r_seq ?_
  refine r_region ?_
  refine l_x rfl (x_mv rfl) ?_
  refine l_x rfl (x_func rfl rfl) ?_
  refine l_call [] [] [_, _] rfl rfl Tryz.call74 rfl (c_ContainsFuncInt _ a (fun x => b.contains x) 77 [_] (by omega) _ (hA.le S2.le) Tryz.call77 (fun x hx w1 h1 => c_meet1 b vb x _ (by omega) w1 ((S2.blk 0 rfl).keep h1 id) (hL.le (S2.le.trans h1)))) ?_
  rintro _ w5 ⟨rfl, hl7⟩
  have S6 := S2.step hl7
  refine l_x rfl (x_as rfl) ?_
  refine l_nil ?_
  refine r_ret (rs := [.tmp 4]) [_] Tryz.func44 rfl ⟨rfl, trivial⟩ ?_
  exact ⟨rfl, S6.le⟩

end Go.Proofs

/-
  Contracts of functions of the program: each by symbolic execution of its text.
-/
namespace Go.Proofs
open Go Go.Vk Go.Vk.Flow

open Go.Vk.Deed


end Go.Proofs

/-
  Contracts of functions of the program: each by symbolic execution of its text.
-/
namespace Go.Proofs
open Go Go.Vk Go.Vk.Flow

open Go.Vk.Deed
def two (y : D) (i : Nat) : List Int := ([y.frm, y.to].take i).filter fun x => decide (0 < x)
theorem two_all (y : D) : y.heirs ++ two y 2 = nm1 y := by
  unfold two nm1
  by_cases h1 : 0 < y.frm <;> by_cases h2 : 0 < y.to <;> simp [h1, h2]
theorem two_len (y : D) (i : Nat) : (two y i).length ≤ 2 := by
  unfold two
  refine Nat.le_trans (List.length_filter_le _ _) ?_
  rw [List.length_take]; simp; omega

set_option maxHeartbeats 4000000 in
/-- couchant/deed.names. -/
theorem c_names (rs : List Rw) (vl : Value) (a : Rw) (hf : ∀ y ∈ dl rs, formed y = true) (ha : formed a.1 = true) (hof : a.1.kind = 6 ∨ a.1.kind = 7 → 1 ≤ a.1.of ∧ ∃ y, rs[(a.1.of - 1).toNat]? = some y) (w : World) (hD : DsR 45 3 w vl rs) (hA : SubR 3 w a) :
    Cl Tryz.prog 45 #[vl, .agg (encD a).toArray] w fun v w' => New w w' (vec EI v (nm (dl rs) a.1)) ∧ Le w w' := by
  have hml := hD.lm
  refine fn_of_run (args := [_, _]) 43 Tryz.func45 rfl rfl rfl fun cs => ?_
  have S := Own.start (X := nob) w
  refine r_seq ?_
  refine r_region ?_
  refine l_box S rfl rfl ?_
  intro b4 w1 S2 hl3
  refine l_x rfl (x_as rfl) ?_
  refine l_nil ?_
  refine r_seq ?_
  refine r_seq ?_
  refine r_region ?_
  refine l_x rfl (x_fieldAddr rfl Tryz.runUnderlying45 rfl Tryz.sizeOf5 (by decide)) ?_
  refine l_x rfl (x_load rfl (ld_blk (S2.blk 0 rfl) Tryz.isAgg5 rfl)) ?_
  refine l_x rfl (x_eql rfl rfl) ?_
  refine l_x rfl (x_mv rfl) ?_
  refine l_splitd (d := 11) rfl (fun hg11 => ?_) (fun hg11 => ?_)
  · skip
    obtain ⟨ho1, y, hyo⟩ := hof (by simp_all)
    have hym := List.mem_of_getElem? hyo
    have hol := (List.getElem?_eq_some_iff.1 hyo).1
    have hh9 : y.1.heirs.length ≤ 1000000000 := by have := (formed_lens (hf y.1 (mem_dl hym))).1; omega
    have hno : ofD (dl rs) a.1 = y.1 := by rw [ofD, if_pos (by simp_all), dl_get hyo]; rfl
    refine l_pass rfl ?_
    refine l_pass rfl ?_
    refine l_pass rfl ?_
    refine l_x rfl (x_pick_t rfl rfl) ?_
    refine l_nil ?_
    refine r_true rfl ?_
    refine r_region ?_
    refine l_x rfl (x_mv rfl) ?_
    refine l_x rfl (x_fieldAddr rfl Tryz.runUnderlying45 rfl Tryz.sizeOf3 (by decide)) ?_
    refine l_x rfl (x_load rfl (ld_blk (S2.blk 0 rfl) Tryz.isAgg3 rfl)) ?_
    refine l_x rfl (x_sub rfl rfl (by omega)) ?_
    refine l_index ED rfl (hD.rd.le S2.le) rfl rfl Tryz.runUnderlying22 Tryz.sizeOf45 (by omega) hyo ?_
    intro b5 o6 hat7 row8
    refine l_x rfl (x_load rfl (ld_row Tryz.isAgg45 Tryz.sizeOf45 rfl row8)) ?_
    refine l_stores (vs := [_, _, _, _, _, _, _, _, _, _, _]) S2 0 rfl rfl rfl rfl (ones_cons rfl (ones_cons rfl (ones_cons rfl (ones_cons rfl (ones_cons rfl (ones_cons rfl (ones_cons rfl (ones_cons rfl (ones_cons rfl (ones_cons (Rd.one ((hD.sub _ hym).1.le S2.le)) (ones_cons (Rd.one ((hD.sub _ hym).2.le S2.le)) ones_nil))))))))))) Tryz.sizeOf45 (by first | exact Nat.le_refl _ | simp) (splice_all rfl) ?_
    intro w9 S10 hk11
    refine l_nil ?_
    refine r_seq ?_
    refine r_region ?_
    refine l_x rfl (x_fieldAddr rfl Tryz.runUnderlying45 rfl Tryz.sizeOf23 (by decide)) ?_
    refine l_x rfl (x_load rfl (ld_blk (S10.blk 0 rfl) Tryz.isAgg23 rfl)) ?_
    refine l_call [] [] [_] rfl rfl Tryz.call70 rfl (c_CloneInt _ _ (hh9) _ ((hD.sub _ hym).1.le S10.le)) ?_
    rintro v2412 w12 ⟨hN2412, hl2412⟩
    have S13 := S10.add hl2412 hN2412
    refine l_x rfl (x_as rfl) ?_
    refine l_nil ?_
    refine r_seq ?_
    refine r_seq ?_
    refine r_region ?_
    refine l_x rfl (x_fieldAddr rfl Tryz.runUnderlying45 rfl Tryz.sizeOf3 (by decide)) ?_
    refine l_x rfl (x_load rfl (ld_blk (S13.blk 0 rfl) Tryz.isAgg3 rfl)) ?_
    refine l_x rfl (x_fieldAddr rfl Tryz.runUnderlying45 rfl Tryz.sizeOf3 (by decide)) ?_
    refine l_x rfl (x_load rfl (ld_blk (S13.blk 0 rfl) Tryz.isAgg3 rfl)) ?_
    refine l_buildSlice EI [y.1.frm, y.1.to] S13 rfl Tryz.runUnderlying23 Tryz.sizeOf3 Tryz.zeroValue3 rfl ⟨rfl, rfl, rfl, rfl, trivial⟩ (Nat.le_of_ble_eq_true rfl) ?_
    intro v17 w14 S15 hl16
    refine l_x rfl (x_len (vec_rd (S15.at 2 rfl)) rfl Tryz.runUnderlying23) ?_
    refine l_x rfl (x_mv rfl) ?_
    refine l_nil ?_
    refine r_block ?_
    refine r_loop (G := Nat × Value) (fun ⟨i, vo⟩ => 2 - i) (fun ⟨i, vo⟩ => [(5, vo), (29, v17), (30, .int .i64 2), (31, .int .i64 i)]) (fun ⟨i, vo⟩ w' => (i ≤ 2) ∧ Own nob w w' [vec EI vo (y.1.heirs ++ two y.1 i), vec EI v17 [y.1.frm, y.1.to]]) (0, v2412) ⟨rfl, rfl, rfl, rfl, trivial⟩ ⟨Nat.zero_le _, (by have hq := S15.pick (L' := [_, _]) [1, 2] (by decide) rfl; rw [show two _ 0 = [] from rfl, List.append_nil]; exact hq)⟩ ?_
    rintro ⟨i, vo⟩ ρ w1 ⟨hi, S1⟩ IH
    refine r_seq ?_
    refine r_region ?_
    refine l_x rfl (x_lss rfl rfl) ?_
    refine l_nil ?_
    refine r_seq ?_
    refine r_ifd rfl (fun hc32 => ?_) (fun hc32 => ?_)
    · skip
      obtain ⟨x, hx⟩ : ∃ x, [(ofD (dl rs) a.1).frm, (ofD (dl rs) a.1).to][i]? = some x := ⟨_, List.getElem?_eq_getElem (by simp; omega)⟩
      rw [hno] at hx
      refine r_skip ?_
      refine r_seq ?_
      refine r_block ?_
      refine r_seq ?_
      refine r_region ?_
      refine l_index EI rfl (vec_rd (S1.at 1 rfl)) rfl rfl Tryz.runUnderlying23 Tryz.sizeOf3 (by omega) hx ?_
      intro b18 o19 hat20 row21
      refine l_x rfl (x_load rfl (ld_cell Tryz.isAgg3 (row21 0 _ rfl))) ?_
      refine l_x rfl (x_as rfl) ?_
      refine l_nil ?_
      refine r_seq ?_
      refine r_region ?_
      refine l_x rfl (x_mv rfl) ?_
      refine l_x rfl (x_gtr rfl rfl) ?_
      refine l_nil ?_
      refine r_ifd rfl (fun hc36 => ?_) (fun hc36 => ?_)
      · skip
        refine r_region ?_
        refine l_x rfl (x_mv rfl) ?_
        refine l_x rfl (x_mv rfl) ?_
        refine l_buildSlice EI [x] S1 rfl Tryz.runUnderlying23 Tryz.sizeOf3 Tryz.zeroValue3 rfl ⟨rfl, rfl, trivial⟩ (Nat.le_of_ble_eq_true rfl) ?_
        intro v25 w22 S23 hl24
        refine l_append EI S23 0 rfl rfl rfl rfl (vec_rd (S23.at 2 rfl)) Tryz.underlying23 info3 rfl rfl rfl (by have h2 := two_len (ofD (dl rs) a.1) i; rw [hno] at h2; unfold maxLen; rw [List.length_append, List.length_singleton]; omega) (by have h2 := two_len (ofD (dl rs) a.1) i; rw [hno] at h2; rw [List.length_append, List.length_singleton]; show _ * 8 ≤ _; omega) ?_
        intro v29 w26 S27 hk28 hv30
        refine l_x rfl (x_as rfl) ?_
        refine l_nil ?_
        refine r_inBlock ?_
        refine r_region ?_
        refine l_x rfl (x_add rfl rfl (by omega)) ?_
        refine l_x rfl (x_mv rfl) ?_
        refine l_nil ?_
        exact IH (i + 1, v29) _ _ (by dsimp only; omega) ⟨rfl, rfl, rfl, rfl, trivial⟩ ⟨by omega, (by rw [two, filter_step hx, if_pos (by simpa using hc36), ← List.append_assoc]; exact S27.take 2)⟩
      refine r_skip ?_
      refine r_inBlock ?_
      refine r_region ?_
      refine l_x rfl (x_add rfl rfl (by omega)) ?_
      refine l_x rfl (x_mv rfl) ?_
      refine l_nil ?_
      exact IH (i + 1, vo) _ _ (by dsimp only; omega) ⟨rfl, rfl, rfl, rfl, trivial⟩ ⟨by omega, (by rw [two, filter_step hx, if_neg (by simpa using hc36), List.append_nil]; exact S1.take 2)⟩
    obtain rfl : i = 2 := by omega
    refine r_exit rfl ?_
    refine r_seq ?_
    refine r_region ?_
    refine l_x rfl (x_mv rfl) ?_
    refine l_x rfl (x_as rfl) ?_
    refine l_nil ?_
    refine r_ret (rs := [.tmp 4]) [_] Tryz.func45 rfl ⟨rfl, trivial⟩ ?_
    have hN := S1.new 0 rfl
    rw [two_all, ← hno] at hN
    exact ⟨hN, S1.le⟩
  refine l_x rfl (x_fieldAddr rfl Tryz.runUnderlying45 rfl Tryz.sizeOf5 (by decide)) ?_
  refine l_x rfl (x_load rfl (ld_blk (S2.blk 0 rfl) Tryz.isAgg5 rfl)) ?_
  refine l_x rfl (x_eql rfl rfl) ?_
  refine l_x rfl (x_pick_f rfl rfl) ?_
  refine l_nil ?_
  refine r_ifd rfl (fun hc15 => ?_) (fun hc15 => ?_)
  · skip
    obtain ⟨ho1, y, hyo⟩ := hof (by simp_all)
    have hym := List.mem_of_getElem? hyo
    have hol := (List.getElem?_eq_some_iff.1 hyo).1
    have hh9 : y.1.heirs.length ≤ 1000000000 := by have := (formed_lens (hf y.1 (mem_dl hym))).1; omega
    have hno : ofD (dl rs) a.1 = y.1 := by rw [ofD, if_pos (by simp_all), dl_get hyo]; rfl
    refine r_region ?_
    refine l_x rfl (x_mv rfl) ?_
    refine l_x rfl (x_fieldAddr rfl Tryz.runUnderlying45 rfl Tryz.sizeOf3 (by decide)) ?_
    refine l_x rfl (x_load rfl (ld_blk (S2.blk 0 rfl) Tryz.isAgg3 rfl)) ?_
    refine l_x rfl (x_sub rfl rfl (by omega)) ?_
    refine l_index ED rfl (hD.rd.le S2.le) rfl rfl Tryz.runUnderlying22 Tryz.sizeOf45 (by omega) hyo ?_
    intro b31 o32 hat33 row34
    refine l_x rfl (x_load rfl (ld_row Tryz.isAgg45 Tryz.sizeOf45 rfl row34)) ?_
    refine l_stores (vs := [_, _, _, _, _, _, _, _, _, _, _]) S2 0 rfl rfl rfl rfl (ones_cons rfl (ones_cons rfl (ones_cons rfl (ones_cons rfl (ones_cons rfl (ones_cons rfl (ones_cons rfl (ones_cons rfl (ones_cons rfl (ones_cons (Rd.one ((hD.sub _ hym).1.le S2.le)) (ones_cons (Rd.one ((hD.sub _ hym).2.le S2.le)) ones_nil))))))))))) Tryz.sizeOf45 (by first | exact Nat.le_refl _ | simp) (splice_all rfl) ?_
    intro w35 S36 hk37
    refine l_nil ?_
    refine r_seq ?_
    refine r_region ?_
    refine l_x rfl (x_fieldAddr rfl Tryz.runUnderlying45 rfl Tryz.sizeOf23 (by decide)) ?_
    refine l_x rfl (x_load rfl (ld_blk (S36.blk 0 rfl) Tryz.isAgg23 rfl)) ?_
    refine l_call [] [] [_] rfl rfl Tryz.call70 rfl (c_CloneInt _ _ (hh9) _ ((hD.sub _ hym).1.le S36.le)) ?_
    rintro v2438 w38 ⟨hN2438, hl2438⟩
    have S39 := S36.add hl2438 hN2438
    refine l_x rfl (x_as rfl) ?_
    refine l_nil ?_
    refine r_seq ?_
    refine r_seq ?_
    refine r_region ?_
    refine l_x rfl (x_fieldAddr rfl Tryz.runUnderlying45 rfl Tryz.sizeOf3 (by decide)) ?_
    refine l_x rfl (x_load rfl (ld_blk (S39.blk 0 rfl) Tryz.isAgg3 rfl)) ?_
    refine l_x rfl (x_fieldAddr rfl Tryz.runUnderlying45 rfl Tryz.sizeOf3 (by decide)) ?_
    refine l_x rfl (x_load rfl (ld_blk (S39.blk 0 rfl) Tryz.isAgg3 rfl)) ?_
    refine l_buildSlice EI [y.1.frm, y.1.to] S39 rfl Tryz.runUnderlying23 Tryz.sizeOf3 Tryz.zeroValue3 rfl ⟨rfl, rfl, rfl, rfl, trivial⟩ (Nat.le_of_ble_eq_true rfl) ?_
    intro v43 w40 S41 hl42
    refine l_x rfl (x_len (vec_rd (S41.at 2 rfl)) rfl Tryz.runUnderlying23) ?_
    refine l_x rfl (x_mv rfl) ?_
    refine l_nil ?_
    refine r_block ?_
    refine r_loop (G := Nat × Value) (fun ⟨i, vo⟩ => 2 - i) (fun ⟨i, vo⟩ => [(5, vo), (29, v43), (30, .int .i64 2), (31, .int .i64 i)]) (fun ⟨i, vo⟩ w' => (i ≤ 2) ∧ Own nob w w' [vec EI vo (y.1.heirs ++ two y.1 i), vec EI v43 [y.1.frm, y.1.to]]) (0, v2438) ⟨rfl, rfl, rfl, rfl, trivial⟩ ⟨Nat.zero_le _, (by have hq := S41.pick (L' := [_, _]) [1, 2] (by decide) rfl; rw [show two _ 0 = [] from rfl, List.append_nil]; exact hq)⟩ ?_
    rintro ⟨i, vo⟩ ρ w1 ⟨hi, S1⟩ IH
    refine r_seq ?_
    refine r_region ?_
    refine l_x rfl (x_lss rfl rfl) ?_
    refine l_nil ?_
    refine r_seq ?_
    refine r_ifd rfl (fun hc32 => ?_) (fun hc32 => ?_)
    · skip
      obtain ⟨x, hx⟩ : ∃ x, [(ofD (dl rs) a.1).frm, (ofD (dl rs) a.1).to][i]? = some x := ⟨_, List.getElem?_eq_getElem (by simp; omega)⟩
      rw [hno] at hx
      refine r_skip ?_
      refine r_seq ?_
      refine r_block ?_
      refine r_seq ?_
      refine r_region ?_
      refine l_index EI rfl (vec_rd (S1.at 1 rfl)) rfl rfl Tryz.runUnderlying23 Tryz.sizeOf3 (by omega) hx ?_
      intro b44 o45 hat46 row47
      refine l_x rfl (x_load rfl (ld_cell Tryz.isAgg3 (row47 0 _ rfl))) ?_
      refine l_x rfl (x_as rfl) ?_
      refine l_nil ?_
      refine r_seq ?_
      refine r_region ?_
      refine l_x rfl (x_mv rfl) ?_
      refine l_x rfl (x_gtr rfl rfl) ?_
      refine l_nil ?_
      refine r_ifd rfl (fun hc36 => ?_) (fun hc36 => ?_)
      · skip
        refine r_region ?_
        refine l_x rfl (x_mv rfl) ?_
        refine l_x rfl (x_mv rfl) ?_
        refine l_buildSlice EI [x] S1 rfl Tryz.runUnderlying23 Tryz.sizeOf3 Tryz.zeroValue3 rfl ⟨rfl, rfl, trivial⟩ (Nat.le_of_ble_eq_true rfl) ?_
        intro v51 w48 S49 hl50
        refine l_append EI S49 0 rfl rfl rfl rfl (vec_rd (S49.at 2 rfl)) Tryz.underlying23 info3 rfl rfl rfl (by have h2 := two_len (ofD (dl rs) a.1) i; rw [hno] at h2; unfold maxLen; rw [List.length_append, List.length_singleton]; omega) (by have h2 := two_len (ofD (dl rs) a.1) i; rw [hno] at h2; rw [List.length_append, List.length_singleton]; show _ * 8 ≤ _; omega) ?_
        intro v55 w52 S53 hk54 hv56
        refine l_x rfl (x_as rfl) ?_
        refine l_nil ?_
        refine r_inBlock ?_
        refine r_region ?_
        refine l_x rfl (x_add rfl rfl (by omega)) ?_
        refine l_x rfl (x_mv rfl) ?_
        refine l_nil ?_
        exact IH (i + 1, v55) _ _ (by dsimp only; omega) ⟨rfl, rfl, rfl, rfl, trivial⟩ ⟨by omega, (by rw [two, filter_step hx, if_pos (by simpa using hc36), ← List.append_assoc]; exact S53.take 2)⟩
      refine r_skip ?_
      refine r_inBlock ?_
      refine r_region ?_
      refine l_x rfl (x_add rfl rfl (by omega)) ?_
      refine l_x rfl (x_mv rfl) ?_
      refine l_nil ?_
      exact IH (i + 1, vo) _ _ (by dsimp only; omega) ⟨rfl, rfl, rfl, rfl, trivial⟩ ⟨by omega, (by rw [two, filter_step hx, if_neg (by simpa using hc36), List.append_nil]; exact S1.take 2)⟩
    obtain rfl : i = 2 := by omega
    refine r_exit rfl ?_
    refine r_seq ?_
    refine r_region ?_
    refine l_x rfl (x_mv rfl) ?_
    refine l_x rfl (x_as rfl) ?_
    refine l_nil ?_
    refine r_ret (rs := [.tmp 4]) [_] Tryz.func45 rfl ⟨rfl, trivial⟩ ?_
    have hN := S1.new 0 rfl
    rw [two_all, ← hno] at hN
    exact ⟨hN, S1.le⟩
  have hh9 : a.1.heirs.length ≤ 1000000000 := by have := (formed_lens ha).1; omega
  have hno : ofD (dl rs) a.1 = a.1 := by rw [ofD, if_neg (by simp_all)]
  refine r_skip ?_
  refine r_seq ?_
  refine r_region ?_
  refine l_x rfl (x_fieldAddr rfl Tryz.runUnderlying45 rfl Tryz.sizeOf23 (by decide)) ?_
  refine l_x rfl (x_load rfl (ld_blk (S2.blk 0 rfl) Tryz.isAgg23 rfl)) ?_
  refine l_call [] [] [_] rfl rfl Tryz.call70 rfl (c_CloneInt _ _ (hh9) _ (hA.1.le S2.le)) ?_
  rintro v2457 w57 ⟨hN2457, hl2457⟩
  have S58 := S2.add hl2457 hN2457
  refine l_x rfl (x_as rfl) ?_
  refine l_nil ?_
  refine r_seq ?_
  refine r_seq ?_
  refine r_region ?_
  refine l_x rfl (x_fieldAddr rfl Tryz.runUnderlying45 rfl Tryz.sizeOf3 (by decide)) ?_
  refine l_x rfl (x_load rfl (ld_blk (S58.blk 0 rfl) Tryz.isAgg3 rfl)) ?_
  refine l_x rfl (x_fieldAddr rfl Tryz.runUnderlying45 rfl Tryz.sizeOf3 (by decide)) ?_
  refine l_x rfl (x_load rfl (ld_blk (S58.blk 0 rfl) Tryz.isAgg3 rfl)) ?_
  refine l_buildSlice EI [a.1.frm, a.1.to] S58 rfl Tryz.runUnderlying23 Tryz.sizeOf3 Tryz.zeroValue3 rfl ⟨rfl, rfl, rfl, rfl, trivial⟩ (Nat.le_of_ble_eq_true rfl) ?_
  intro v62 w59 S60 hl61
  refine l_x rfl (x_len (vec_rd (S60.at 2 rfl)) rfl Tryz.runUnderlying23) ?_
  refine l_x rfl (x_mv rfl) ?_
  refine l_nil ?_
  refine r_block ?_
  refine r_loop (G := Nat × Value) (fun ⟨i, vo⟩ => 2 - i) (fun ⟨i, vo⟩ => [(5, vo), (29, v62), (30, .int .i64 2), (31, .int .i64 i)]) (fun ⟨i, vo⟩ w' => (i ≤ 2) ∧ Own nob w w' [vec EI vo (a.1.heirs ++ two a.1 i), vec EI v62 [a.1.frm, a.1.to]]) (0, v2457) ⟨rfl, rfl, rfl, rfl, trivial⟩ ⟨Nat.zero_le _, (by have hq := S60.pick (L' := [_, _]) [1, 2] (by decide) rfl; rw [show two _ 0 = [] from rfl, List.append_nil]; exact hq)⟩ ?_
  rintro ⟨i, vo⟩ ρ w1 ⟨hi, S1⟩ IH
  refine r_seq ?_
  refine r_region ?_
  refine l_x rfl (x_lss rfl rfl) ?_
  refine l_nil ?_
  refine r_seq ?_
  refine r_ifd rfl (fun hc32 => ?_) (fun hc32 => ?_)
  · skip
    obtain ⟨x, hx⟩ : ∃ x, [(ofD (dl rs) a.1).frm, (ofD (dl rs) a.1).to][i]? = some x := ⟨_, List.getElem?_eq_getElem (by simp; omega)⟩
    rw [hno] at hx
    refine r_skip ?_
    refine r_seq ?_
    refine r_block ?_
    refine r_seq ?_
    refine r_region ?_
    refine l_index EI rfl (vec_rd (S1.at 1 rfl)) rfl rfl Tryz.runUnderlying23 Tryz.sizeOf3 (by omega) hx ?_
    intro b63 o64 hat65 row66
    refine l_x rfl (x_load rfl (ld_cell Tryz.isAgg3 (row66 0 _ rfl))) ?_
    refine l_x rfl (x_as rfl) ?_
    refine l_nil ?_
    refine r_seq ?_
    refine r_region ?_
    refine l_x rfl (x_mv rfl) ?_
    refine l_x rfl (x_gtr rfl rfl) ?_
    refine l_nil ?_
    refine r_ifd rfl (fun hc36 => ?_) (fun hc36 => ?_)
    · skip
      refine r_region ?_
      refine l_x rfl (x_mv rfl) ?_
      refine l_x rfl (x_mv rfl) ?_
      refine l_buildSlice EI [x] S1 rfl Tryz.runUnderlying23 Tryz.sizeOf3 Tryz.zeroValue3 rfl ⟨rfl, rfl, trivial⟩ (Nat.le_of_ble_eq_true rfl) ?_
      intro v70 w67 S68 hl69
      refine l_append EI S68 0 rfl rfl rfl rfl (vec_rd (S68.at 2 rfl)) Tryz.underlying23 info3 rfl rfl rfl (by have h2 := two_len (ofD (dl rs) a.1) i; rw [hno] at h2; unfold maxLen; rw [List.length_append, List.length_singleton]; omega) (by have h2 := two_len (ofD (dl rs) a.1) i; rw [hno] at h2; rw [List.length_append, List.length_singleton]; show _ * 8 ≤ _; omega) ?_
      intro v74 w71 S72 hk73 hv75
      refine l_x rfl (x_as rfl) ?_
      refine l_nil ?_
      refine r_inBlock ?_
      refine r_region ?_
      refine l_x rfl (x_add rfl rfl (by omega)) ?_
      refine l_x rfl (x_mv rfl) ?_
      refine l_nil ?_
      exact IH (i + 1, v74) _ _ (by dsimp only; omega) ⟨rfl, rfl, rfl, rfl, trivial⟩ ⟨by omega, (by rw [two, filter_step hx, if_pos (by simpa using hc36), ← List.append_assoc]; exact S72.take 2)⟩
    refine r_skip ?_
    refine r_inBlock ?_
    refine r_region ?_
    refine l_x rfl (x_add rfl rfl (by omega)) ?_
    refine l_x rfl (x_mv rfl) ?_
    refine l_nil ?_
    exact IH (i + 1, vo) _ _ (by dsimp only; omega) ⟨rfl, rfl, rfl, rfl, trivial⟩ ⟨by omega, (by rw [two, filter_step hx, if_neg (by simpa using hc36), List.append_nil]; exact S1.take 2)⟩
  obtain rfl : i = 2 := by omega
  refine r_exit rfl ?_
  refine r_seq ?_
  refine r_region ?_
  refine l_x rfl (x_mv rfl) ?_
  refine l_x rfl (x_as rfl) ?_
  refine l_nil ?_
  refine r_ret (rs := [.tmp 4]) [_] Tryz.func45 rfl ⟨rfl, trivial⟩ ?_
  have hN := S1.new 0 rfl
  rw [two_all, ← hno] at hN
  exact ⟨hN, S1.le⟩

end Go.Proofs

/-
  Contracts of functions of the program: each by symbolic execution of its text.
-/
namespace Go.Proofs
open Go Go.Vk Go.Vk.Flow

open Go.Vk.Deed


end Go.Proofs

/-
  Contracts of functions of the program: each by symbolic execution of its text.
-/
namespace Go.Proofs
open Go Go.Vk Go.Vk.Flow

open Go.Vk.Deed
/-- What a round of the search reads. -/
structure TkR (rs rq : List Rw) (vl vq : Value) (m ba bm bl bk : Nat) (w : World) : Prop where
  xa : DsR 45 3 w vq rq
  xl : DsR 45 3 w vl rs
  xba : Blk w ba [vq] 22
  xbm : Blk w bm [.map (some m)] 86
  xbl : Blk w bl [vl] 22
  xbk : Blk w bk [.func (.func 43) #[] #[.pointer (some ⟨ba, 0, none⟩), .pointer (some ⟨bm, 0, none⟩), .pointer (some ⟨bl, 0, none⟩), .pointer (some ⟨bk, 0, none⟩)]] 87
/-- The search from a deed on. -/
abbrev TkP (rs rq : List Rw) (vl vq : Value) (m ba bm bl bk : Nat) (N : Nat) : Prop := ∀ (T : List Nat) (i : Nat) (w : World), rq.length - T.length < N → i < rq.length → T.Nodup → (∀ k ∈ T, k < rq.length) → (∀ wz, Keep (· = m) w wz → TkR rs rq vl vq m ba bm bl bk wz) → Own (· = m) w w [mapr kInt Value.bool m (setM ((T).map (idAt (dl rq))))] →
  Cl Tryz.prog 43 #[.int .i64 i, .pointer (some ⟨ba, 0, none⟩), .pointer (some ⟨bm, 0, none⟩), .pointer (some ⟨bl, 0, none⟩), .pointer (some ⟨bk, 0, none⟩)] w fun _ w' => ∃ T', Took (restsB (dl rs) (dl rq)) rq.length T i T' ∧ Own (· = m) w w' [mapr kInt Value.bool m (setM ((T').map (idAt (dl rq))))]
theorem taken_in {c : List D} {T : List Nat} {i : Nat} {x : D} (hn : (c.map (·.id)).Nodup) (hT : ∀ k ∈ T, k < c.length) (hx : c[i]? = some x) : (T.map (idAt c)).contains x.id = true ↔ i ∈ T := by
  rw [List.contains_iff_mem, List.mem_map]
  constructor
  · rintro ⟨k, hk, e⟩
    have := idAt_inj hn (hT k hk) (List.getElem?_eq_some_iff.1 hx).1 (e.trans (idAt_get hx).symm)
    exact this ▸ hk
  intro h; exact ⟨i, h, idAt_get hx⟩
theorem setM_take {c : List D} {T : List Nat} {i : Nat} {x : D} (hx : c[i]? = some x) : mset (setM (T.map (idAt c))) x.id true = setM ((i :: T).map (idAt c)) := by
  rw [setM_cons, List.map_cons, idAt_get hx]
/-- A pledge's deed. -/
def plgB (x y : D) : Bool := decide (x.kind = 6 ∨ x.kind = 7) && decide (y.id = x.of)
theorem rests_eq {l c : List D} {i k : Nat} {x y : D} (hx : c[i]? = some x) (hy : c[k]? = some y) : restsB l c i k = (plgB x y || (decide (k < i) && meetB (nm l x) (nm l y))) := by
  unfold restsB; rw [hx, hy]; rfl
theorem nm_len {l : List D} {x : D} (hf : ∀ y ∈ l, formed y = true) (hx : formed x = true) : (nm l x).length ≤ 12 := by
  have key : ∀ y : D, formed y = true → (nm1 y).length ≤ 12 := fun y hy => by
    have h1 := (formed_lens hy).1
    unfold nm1
    rw [List.length_append, List.length_append]
    split <;> split <;> simp <;> omega
  unfold nm ofD
  split
  · cases h : l[(x.of - 1).toNat]? with
    | none => exact key x hx
    | some y => exact key y (hf y (List.mem_of_getElem? h))
  exact key x hx

set_option maxHeartbeats 4000000 in
/-- couchant/deed.Lineage$1. -/
theorem c_take1 (rs rq : List Rw) (vl vq : Value) (m ba bm bl bk : Nat) (known : Int) (hR : rightD (dl rs) = true) (hq : dl rq = counting (dl rs) known) (hmq : ∀ a ∈ rq, a ∈ rs) (N : Nat) (HI : TkP rs rq vl vq m ba bm bl bk N) (T : List Nat) (i : Nat) (hN : rq.length - T.length < N + 1) (hi : i < rq.length) (hn : T.Nodup) (hl : ∀ k ∈ T, k < rq.length) (w : World) (hT : ∀ wz, Keep (· = m) w wz → TkR rs rq vl vq m ba bm bl bk wz) (S : Own (· = m) w w [mapr kInt Value.bool m (setM ((T).map (idAt (dl rq))))]) :
    Cl Tryz.prog 43 #[.int .i64 i, .pointer (some ⟨ba, 0, none⟩), .pointer (some ⟨bm, 0, none⟩), .pointer (some ⟨bl, 0, none⟩), .pointer (some ⟨bk, 0, none⟩)] w fun _ w' => ∃ T', Took (restsB (dl rs) (dl rq)) rq.length T i T' ∧ Own (· = m) w w' [mapr kInt Value.bool m (setM ((T').map (idAt (dl rq))))] := by
  have hnd := (right_play (known := known) hR).nd
  rw [← hq] at hnd
  have hTl : ∀ q ∈ T, q < (dl rq).length := by rw [dl_len]; exact hl
  have hrl : rq.length ≤ 400 := by rw [← dl_len, hq]; exact count_len hR
  obtain ⟨a, ha⟩ : ∃ a, rq[i]? = some a := ⟨_, List.getElem?_eq_getElem hi⟩
  have ham := List.mem_of_getElem? ha
  have hnla := nm_len (fun y hy => right_formed hR hy) (right_formed hR (mem_dl (hmq _ ham)))
  refine fn_of_run (args := [_, _, _, _, _]) 62 Tryz.func43 rfl rfl rfl fun cs => ?_
  refine r_seq ?_
  refine r_region ?_
  refine l_x rfl (x_load rfl (ld_blk (hT _ S.keep).xba Tryz.isAgg22 rfl)) ?_
  refine l_x rfl (x_mv rfl) ?_
  refine l_index ED rfl (hT _ S.keep).xa.rd rfl rfl Tryz.runUnderlying22 Tryz.sizeOf45 (by omega) ha ?_
  intro b1 o2 hat3 row4
  refine l_x rfl (x_load rfl (ld_row Tryz.isAgg45 Tryz.sizeOf45 rfl row4)) ?_
  refine l_alloc S rfl Tryz.zeroValue45 rfl ?_
  intro b8 w5 S6 hl7
  refine l_stores (vs := [_, _, _, _, _, _, _, _, _, _, _]) S6 1 rfl rfl rfl rfl (ones_cons rfl (ones_cons rfl (ones_cons rfl (ones_cons rfl (ones_cons rfl (ones_cons rfl (ones_cons rfl (ones_cons rfl (ones_cons rfl (ones_cons (Rd.one ((hT _ S6.keep).xa.sub _ ham).1) (ones_cons (Rd.one ((hT _ S6.keep).xa.sub _ ham).2) ones_nil))))))))))) Tryz.sizeOf45 (by first | exact Nat.le_refl _ | simp) (splice_all rfl) ?_
  intro w9 S10 hk11
  refine l_nil ?_
  refine r_seq ?_
  refine r_seq ?_
  refine r_region ?_
  refine l_x rfl (x_load rfl (ld_blk (hT _ S10.keep).xbm Tryz.isAgg86 rfl)) ?_
  refine l_x rfl (x_fieldAddr rfl Tryz.runUnderlying45 rfl Tryz.sizeOf3 (by decide)) ?_
  refine l_x rfl (x_load rfl (ld_blk (S10.blk 1 rfl) Tryz.isAgg3 rfl)) ?_
  refine l_x rfl (x_lookup (S10.at 0 rfl) keyI Tryz.runUnderlying86 rfl rfl Tryz.zeroValue4 setM_get) ?_
  refine l_nil ?_
  refine r_if rfl (fun hc17 => ?_) (fun hc17 => ?_)
  · skip
    refine r_ret (rs := []) [] Tryz.func43 rfl trivial ?_
    exact ⟨T, .here ((taken_in hnd hTl (dl_get ha)).1 hc17) hn hl, S10.take 1⟩
  have hiT : i ∉ T := fun g => by rw [(taken_in hnd hTl (dl_get ha)).2 g] at hc17; cases hc17
  refine r_skip ?_
  refine r_seq ?_
  refine r_region ?_
  refine l_x rfl (x_load rfl (ld_blk (hT _ S10.keep).xbm Tryz.isAgg86 rfl)) ?_
  refine l_x rfl (x_fieldAddr rfl Tryz.runUnderlying45 rfl Tryz.sizeOf3 (by decide)) ?_
  refine l_x rfl (x_load rfl (ld_blk (S10.blk 1 rfl) Tryz.isAgg3 rfl)) ?_
  refine l_mapUpdate S10 0 rfl rfl keyI Tryz.runUnderlying86 rfl rfl rfl ?_
  intro w12 S13 hk14
  refine l_nil ?_
  refine r_seq ?_
  refine r_region ?_
  refine l_x rfl (x_load rfl (ld_blk (hT _ S13.keep).xba Tryz.isAgg22 rfl)) ?_
  refine l_x rfl (x_len (hT _ S13.keep).xa.rd rfl Tryz.runUnderlying22) ?_
  refine l_x rfl (x_mv rfl) ?_
  refine l_nil ?_
  refine r_block ?_
  refine r_loop (G := Nat × List Nat) (fun ⟨k, T1⟩ => rq.length - k) (fun ⟨k, T1⟩ => [(0, .int .i64 i), (1, .pointer (some ⟨ba, 0, none⟩)), (2, .pointer (some ⟨bm, 0, none⟩)), (3, .pointer (some ⟨bl, 0, none⟩)), (4, .pointer (some ⟨bk, 0, none⟩)), (6, .pointer (some ⟨b8, 0, none⟩)), (21, vq), (22, .int .i64 rq.length), (23, .int .i64 k)]) (fun ⟨k, T1⟩ w' => (k ≤ rq.length) ∧ (Tak (restsB (dl rs) (dl rq)) rq.length T i T1 k) ∧ Own (· = m) w w' [mapr kInt Value.bool m (setM ((T1).map (idAt (dl rq)))), blk b8 (encD a) 45]) (0, i :: T) ⟨rfl, rfl, rfl, rfl, rfl, rfl, rfl, rfl, rfl, trivial⟩ ⟨Nat.zero_le _, .start hiT hi hn hl, (by rw [← setM_take (dl_get ha)]; exact S13)⟩ ?_
  rintro ⟨k, T1⟩ ρ w1 ⟨hkk, hTk, S1⟩ IH
  refine r_seq ?_
  refine r_region ?_
  refine l_x rfl (x_lss rfl rfl) ?_
  refine l_nil ?_
  refine r_seq ?_
  refine r_ifd rfl (fun hc24 => ?_) (fun hc24 => ?_)
  · skip
    have hkl : k < rq.length := by omega
    obtain ⟨b, hb⟩ : ∃ b, rq[k]? = some b := ⟨_, List.getElem?_eq_getElem hkl⟩
    have hbm := List.mem_of_getElem? hb
    have hnlb := nm_len (fun y hy => right_formed hR hy) (right_formed hR (mem_dl (hmq _ hbm)))
    have hre := rests_eq (l := dl rs) (dl_get ha) (dl_get hb)
    refine r_skip ?_
    refine r_seq ?_
    refine r_block ?_
    refine r_seq ?_
    refine r_region ?_
    refine l_x rfl (x_mv rfl) ?_
    refine l_index ED rfl (hT _ S1.keep).xa.rd rfl rfl Tryz.runUnderlying22 Tryz.sizeOf45 (by omega) hb ?_
    intro b15 o16 hat17 row18
    refine l_x rfl (x_load rfl (ld_row Tryz.isAgg45 Tryz.sizeOf45 rfl row18)) ?_
    refine l_alloc S1 rfl Tryz.zeroValue45 rfl ?_
    intro b22 w19 S20 hl21
    refine l_x rfl (x_as rfl) ?_
    refine l_stores (vs := [_, _, _, _, _, _, _, _, _, _, _]) S20 2 rfl rfl rfl rfl (ones_cons rfl (ones_cons rfl (ones_cons rfl (ones_cons rfl (ones_cons rfl (ones_cons rfl (ones_cons rfl (ones_cons rfl (ones_cons rfl (ones_cons (Rd.one ((hT _ S20.keep).xa.sub _ hbm).1) (ones_cons (Rd.one ((hT _ S20.keep).xa.sub _ hbm).2) ones_nil))))))))))) Tryz.sizeOf45 (by first | exact Nat.le_refl _ | simp) (splice_all rfl) ?_
    intro w23 S24 hk25
    refine l_nil ?_
    refine r_seq ?_
    refine r_cutS S24 [(0, .int .i64 i), (1, .pointer (some ⟨ba, 0, none⟩)), (2, .pointer (some ⟨bm, 0, none⟩)), (3, .pointer (some ⟨bl, 0, none⟩)), (4, .pointer (some ⟨bk, 0, none⟩)), (6, .pointer (some ⟨b8, 0, none⟩)), (7, .int .i64 k), (8, .pointer (some ⟨b22, 0, none⟩)), (21, vq), (22, .int .i64 rq.length), (23, .int .i64 k), (9, .bool (plgB a.1 b.1))] (True) (fun ρ w26 hp28 S27 => ?_) (fun HK29 => ?_)
    · skip
      refine r_seq ?_
      refine r_drawE 15 nob Tryz.mixed (by kernel_rfl) ?_
      intro w30 hl31
      have S32 := S27.step hl31
      refine e_exact 0 _ (by kernel_rfl) rfl rfl (by kernel_rfl) rfl (ex_x rfl (fun w1 h1 => x_mv rfl)) ?_
      refine e_exact 1 _ (by kernel_rfl) rfl rfl (by kernel_rfl) rfl (ex_x rfl (fun w1 h1 => x_mv rfl)) ?_
      refine e_split (d := 44) rfl (fun hg44 => ?_) (fun hg44 => ?_)
      · skip
        refine e_exact 2 _ (by kernel_rfl) rfl rfl (by kernel_rfl) rfl (ex_pass rfl) ?_
        refine e_exact 3 _ (by kernel_rfl) rfl rfl (by kernel_rfl) rfl (ex_pass rfl) ?_
        refine e_exact 4 _ (by kernel_rfl) rfl rfl (by kernel_rfl) rfl (ex_pass rfl) ?_
        refine e_exact 5 _ (by kernel_rfl) rfl rfl (by kernel_rfl) rfl (ex_pass rfl) ?_
        refine e_exact 6 _ (by kernel_rfl) rfl rfl (by kernel_rfl) rfl (ex_pass rfl) ?_
        refine e_exact 7 _ (by kernel_rfl) rfl rfl (by kernel_rfl) rfl (ex_pass rfl) ?_
        refine e_exact 8 _ (by kernel_rfl) rfl rfl (by kernel_rfl) rfl (ex_pass rfl) ?_
        refine e_exact 9 _ (by kernel_rfl) rfl rfl (by kernel_rfl) rfl (ex_pass rfl) ?_
        refine e_exact 10 _ (by kernel_rfl) rfl rfl (by kernel_rfl) rfl (ex_pass rfl) ?_
        refine e_exact 11 _ (by kernel_rfl) rfl rfl (by kernel_rfl) rfl (ex_pass rfl) ?_
        refine e_exact 12 _ (by kernel_rfl) rfl rfl (by kernel_rfl) rfl (ex_pass rfl) ?_
        refine e_exact 13 _ (by kernel_rfl) rfl rfl (by kernel_rfl) rfl (ex_pass rfl) ?_
        refine e_exact 14 _ (by kernel_rfl) rfl rfl (by kernel_rfl) rfl (ex_x rfl (fun w1 h1 => x_pick_t rfl rfl)) ?_
        refine e_done (by kernel_rfl) ?_
        refine l_nil ?_
        refine r_true rfl ?_
        refine r_region ?_
        refine l_x rfl (x_load rfl (ld_blk (hT _ S32.keep).xbk Tryz.isAgg87 rfl)) ?_
        refine l_x rfl (x_mv rfl) ?_
        refine l_call [] [_, _, _, _] [_, _, _, _, _] rfl rfl Tryz.call43 rfl (HI T1 k _ (by have := hTk.less hn hiT; omega) hkl hTk.nd hTk.lt (fun wz hk => hT wz (S32.keep.trans hk)) (S32.lend 0 rfl)) ?_
        rintro _ w33 ⟨T2, hK, hb35⟩
        have S34 := S32.back 0 rfl hb35
        refine l_nil ?_
        refine r_inBlock ?_
        refine r_region ?_
        refine l_x rfl (x_add rfl rfl (by omega)) ?_
        refine l_x rfl (x_mv rfl) ?_
        refine l_nil ?_
        have hrk : (restsB (dl rs) (dl rq)) i k = true := by rw [hre]; first | (simp_all; done) | (simp_all; intros; omega)
        exact IH (k + 1, T2) _ _ (by dsimp only; omega) ⟨rfl, rfl, rfl, rfl, rfl, rfl, rfl, rfl, rfl, trivial⟩ ⟨by omega, hTk.take hrk hK, (S34.take 2)⟩
      refine e_exact 2 _ (by kernel_rfl) rfl rfl (by kernel_rfl) rfl (ex_x rfl (fun w1 h1 => x_mv rfl)) ?_
      refine e_exact 3 _ (by kernel_rfl) rfl rfl (by kernel_rfl) rfl (ex_x rfl (fun w1 h1 => x_mv rfl)) ?_
      refine e_exact 4 _ (by kernel_rfl) rfl rfl (by kernel_rfl) rfl (ex_x rfl (fun w1 h1 => x_lss rfl rfl)) ?_
      refine e_exact 5 _ (by kernel_rfl) rfl rfl (by kernel_rfl) rfl (ex_x rfl (fun w1 h1 => x_mv rfl)) ?_
      refine e_splitd (d := 48) rfl (fun hg48 => ?_) (fun hg48 => ?_)
      · skip
        refine e_exact 6 _ (by kernel_rfl) rfl rfl (by kernel_rfl) rfl (ex_x rfl (fun w1 h1 => x_load rfl (ld_blk (hT _ (S32.step h1).keep).xbl Tryz.isAgg22 rfl))) ?_
        refine e_exact 7 _ (by kernel_rfl) rfl rfl (by kernel_rfl) rfl (ex_x rfl (fun w1 h1 => x_load rfl (ld_blks ((S32.step h1).blk 1 rfl) Tryz.isAgg45 Tryz.sizeOf45 rfl rfl))) ?_
        refine e_exact 9 _ (by kernel_rfl) rfl rfl (by kernel_rfl) rfl (ex_x rfl (fun w1 h1 => x_load rfl (ld_blk (hT _ (S32.step h1).keep).xbl Tryz.isAgg22 rfl))) ?_
        refine e_exact 10 _ (by kernel_rfl) rfl rfl (by kernel_rfl) rfl (ex_x rfl (fun w1 h1 => x_load rfl (ld_blks ((S32.step h1).blk 2 rfl) Tryz.isAgg45 Tryz.sizeOf45 rfl rfl))) ?_
        refine e_next [8] (by kernel_rfl) (by kernel_rfl) ⟨⟨_, _, rfl, rfl, ?_⟩, trivial⟩
        refine s_callf [] [] [_, _] rfl rfl Tryz.call45 rfl ((c_names rs vl a (fun y hy => right_formed hR hy) (right_formed hR (mem_dl (hmq _ ham))) (fun k => by have h9 := right_of hR (mem_dl (hmq _ ham)) k; rw [dl_len] at h9; exact ⟨h9.1, _, List.getElem?_eq_getElem (by omega)⟩) _ (hT _ S32.keep).xl ((hT _ S32.keep).xa.sub _ ham)).mono ?_)
        rintro v5136 w36 ⟨hN5136, hl5136⟩
        have S37 := S32.add hl5136 hN5136
        refine ⟨.of_le hl5136, ?_⟩
        refine e_next [11] (by kernel_rfl) (by kernel_rfl) ⟨⟨_, _, rfl, rfl, ?_⟩, trivial⟩
        refine s_callf [] [] [_, _] rfl rfl Tryz.call45 rfl ((c_names rs vl b (fun y hy => right_formed hR hy) (right_formed hR (mem_dl (hmq _ hbm))) (fun k => by have h9 := right_of hR (mem_dl (hmq _ hbm)) k; rw [dl_len] at h9; exact ⟨h9.1, _, List.getElem?_eq_getElem (by omega)⟩) _ (hT _ S37.keep).xl ((hT _ S37.keep).xa.sub _ hbm)).mono ?_)
        rintro v5438 w38 ⟨hN5438, hl5438⟩
        have S39 := S37.add hl5438 hN5438
        refine ⟨.of_le hl5438, ?_⟩
        refine e_next [12] (by kernel_rfl) (by kernel_rfl) ⟨⟨_, _, rfl, rfl, ?_⟩, trivial⟩
        refine s_callf [] [] [_, _] rfl rfl Tryz.call44 rfl ((c_meet _ _ _ _ (by omega) (by omega) _ (vec_rd (S39.at 3 rfl)) (vec_rd (S39.at 4 rfl))).mono ?_)
        rintro _ w40 ⟨rfl, hl42⟩
        have S41 := S39.step hl42
        refine ⟨.of_le hl42, ?_⟩
        refine e_exact 13 _ (by kernel_rfl) rfl rfl (by kernel_rfl) rfl (ex_x rfl (fun w1 h1 => x_pick_t rfl rfl)) ?_
        refine e_exact 14 _ (by kernel_rfl) rfl rfl (by kernel_rfl) rfl (ex_x rfl (fun w1 h1 => x_pick_f rfl rfl)) ?_
        refine e_done (by kernel_rfl) ?_
        refine l_nil ?_
        refine r_if rfl (fun hc57 => ?_) (fun hc57 => ?_)
        · skip
          refine r_region ?_
          refine l_x rfl (x_load rfl (ld_blk (hT _ S41.keep).xbk Tryz.isAgg87 rfl)) ?_
          refine l_x rfl (x_mv rfl) ?_
          refine l_call [] [_, _, _, _] [_, _, _, _, _] rfl rfl Tryz.call43 rfl (HI T1 k _ (by have := hTk.less hn hiT; omega) hkl hTk.nd hTk.lt (fun wz hk => hT wz (S41.keep.trans hk)) (S41.lend 0 rfl)) ?_
          rintro _ w43 ⟨T2, hK, hb45⟩
          have S44 := S41.back 0 rfl hb45
          refine l_nil ?_
          refine r_inBlock ?_
          refine r_region ?_
          refine l_x rfl (x_add rfl rfl (by omega)) ?_
          refine l_x rfl (x_mv rfl) ?_
          refine l_nil ?_
          have hrk : (restsB (dl rs) (dl rq)) i k = true := by rw [hre]; first | (simp_all; done) | (simp_all; intros; omega)
          exact IH (k + 1, T2) _ _ (by dsimp only; omega) ⟨rfl, rfl, rfl, rfl, rfl, rfl, rfl, rfl, rfl, trivial⟩ ⟨by omega, hTk.take hrk hK, (S44.take 2)⟩
        refine r_skip ?_
        refine r_inBlock ?_
        refine r_region ?_
        refine l_x rfl (x_add rfl rfl (by omega)) ?_
        refine l_x rfl (x_mv rfl) ?_
        refine l_nil ?_
        have hrk : (restsB (dl rs) (dl rq)) i k = false := by rw [hre]; first | (simp_all; done) | (simp_all; intros; omega)
        exact IH (k + 1, T1) _ _ (by dsimp only; omega) ⟨rfl, rfl, rfl, rfl, rfl, rfl, rfl, rfl, rfl, trivial⟩ ⟨by omega, hTk.skip hrk, (S41.take 2)⟩
      refine e_exact 6 _ (by kernel_rfl) rfl rfl (by kernel_rfl) rfl (ex_pass rfl) ?_
      refine e_exact 7 _ (by kernel_rfl) rfl rfl (by kernel_rfl) rfl (ex_pass rfl) ?_
      refine e_exact 8 _ (by kernel_rfl) rfl rfl (by kernel_rfl) rfl (ex_pass rfl) ?_
      refine e_exact 9 _ (by kernel_rfl) rfl rfl (by kernel_rfl) rfl (ex_pass rfl) ?_
      refine e_exact 10 _ (by kernel_rfl) rfl rfl (by kernel_rfl) rfl (ex_pass rfl) ?_
      refine e_exact 11 _ (by kernel_rfl) rfl rfl (by kernel_rfl) rfl (ex_pass rfl) ?_
      refine e_exact 12 _ (by kernel_rfl) rfl rfl (by kernel_rfl) rfl (ex_pass rfl) ?_
      refine e_exact 13 _ (by kernel_rfl) rfl rfl (by kernel_rfl) rfl (ex_x rfl (fun w1 h1 => x_pick_f rfl rfl)) ?_
      refine e_exact 14 _ (by kernel_rfl) rfl rfl (by kernel_rfl) rfl (ex_x rfl (fun w1 h1 => x_pick_f rfl rfl)) ?_
      refine e_done (by kernel_rfl) ?_
      refine l_nil ?_
      refine r_false rfl ?_
      refine r_skip ?_
      refine r_inBlock ?_
      refine r_region ?_
      refine l_x rfl (x_add rfl rfl (by omega)) ?_
      refine l_x rfl (x_mv rfl) ?_
      refine l_nil ?_
      have hrk : (restsB (dl rs) (dl rq)) i k = false := by rw [hre]; first | (simp_all; done) | (simp_all; intros; omega)
      exact IH (k + 1, T1) _ _ (by dsimp only; omega) ⟨rfl, rfl, rfl, rfl, rfl, rfl, rfl, rfl, rfl, trivial⟩ ⟨by omega, hTk.skip hrk, (S32.take 2)⟩
    refine r_region ?_
    refine l_x rfl (x_fieldAddr rfl Tryz.runUnderlying45 rfl Tryz.sizeOf5 (by decide)) ?_
    refine l_x rfl (x_load rfl (ld_blk (S24.blk 1 rfl) Tryz.isAgg5 rfl)) ?_
    refine l_x rfl (x_eql rfl rfl) ?_
    refine l_x rfl (x_mv rfl) ?_
    refine l_splitd (d := 31) rfl (fun hg31 => ?_) (fun hg31 => ?_)
    · skip
      refine l_pass rfl ?_
      refine l_pass rfl ?_
      refine l_pass rfl ?_
      refine l_x rfl (x_pick_t rfl rfl) ?_
      refine l_x rfl (x_mv rfl) ?_
      refine l_x rfl (x_fieldAddr rfl Tryz.runUnderlying45 rfl Tryz.sizeOf3 (by decide)) ?_
      refine l_x rfl (x_load rfl (ld_blk (S24.blk 2 rfl) Tryz.isAgg3 rfl)) ?_
      refine l_x rfl (x_fieldAddr rfl Tryz.runUnderlying45 rfl Tryz.sizeOf3 (by decide)) ?_
      refine l_x rfl (x_load rfl (ld_blk (S24.blk 1 rfl) Tryz.isAgg3 rfl)) ?_
      refine l_x rfl (x_eql rfl rfl) ?_
      refine l_x rfl (x_pick_t rfl rfl) ?_
      refine l_x rfl (x_as rfl) ?_
      refine l_nil ?_
      exact HK29 _ _ ⟨rfl, rfl, rfl, rfl, rfl, rfl, rfl, rfl, rfl, rfl, rfl, (congrArg Value.bool (by simp_all [plgB])), trivial⟩ trivial (S24.take 3)
    refine l_x rfl (x_fieldAddr rfl Tryz.runUnderlying45 rfl Tryz.sizeOf5 (by decide)) ?_
    refine l_x rfl (x_load rfl (ld_blk (S24.blk 1 rfl) Tryz.isAgg5 rfl)) ?_
    refine l_x rfl (x_eql rfl rfl) ?_
    refine l_x rfl (x_pick_f rfl rfl) ?_
    refine l_x rfl (x_mv rfl) ?_
    refine l_splitd (d := 36) rfl (fun hg36 => ?_) (fun hg36 => ?_)
    · skip
      refine l_x rfl (x_fieldAddr rfl Tryz.runUnderlying45 rfl Tryz.sizeOf3 (by decide)) ?_
      refine l_x rfl (x_load rfl (ld_blk (S24.blk 2 rfl) Tryz.isAgg3 rfl)) ?_
      refine l_x rfl (x_fieldAddr rfl Tryz.runUnderlying45 rfl Tryz.sizeOf3 (by decide)) ?_
      refine l_x rfl (x_load rfl (ld_blk (S24.blk 1 rfl) Tryz.isAgg3 rfl)) ?_
      refine l_x rfl (x_eql rfl rfl) ?_
      refine l_x rfl (x_pick_t rfl rfl) ?_
      refine l_x rfl (x_as rfl) ?_
      refine l_nil ?_
      exact HK29 _ _ ⟨rfl, rfl, rfl, rfl, rfl, rfl, rfl, rfl, rfl, rfl, rfl, (congrArg Value.bool (by simp_all [plgB])), trivial⟩ trivial (S24.take 3)
    refine l_pass rfl ?_
    refine l_pass rfl ?_
    refine l_pass rfl ?_
    refine l_pass rfl ?_
    refine l_pass rfl ?_
    refine l_x rfl (x_pick_f rfl rfl) ?_
    refine l_x rfl (x_as rfl) ?_
    refine l_nil ?_
    exact HK29 _ _ ⟨rfl, rfl, rfl, rfl, rfl, rfl, rfl, rfl, rfl, rfl, rfl, (congrArg Value.bool (by simp_all [plgB])), trivial⟩ trivial (S24.take 3)
  obtain rfl : k = rq.length := by omega
  refine r_exit rfl ?_
  refine r_end (rs := []) [] Tryz.func43 rfl trivial ?_
  exact ⟨T1, hTk.done fun q hr => by have h9 := rests_lt hr; rwa [dl_len] at h9, S1.take 1⟩

theorem c_take (rs rq : List Rw) (vl vq : Value) (m ba bm bl bk : Nat) (known : Int) (hR : rightD (dl rs) = true) (hq : dl rq = counting (dl rs) known) (hmq : ∀ a ∈ rq, a ∈ rs) : ∀ N, TkP rs rq vl vq m ba bm bl bk N := by
  intro N
  induction N with
  | zero => exact fun T i w h => absurd h (Nat.not_lt_zero _)
  | succ N IH => exact fun T i w h hi hn hl hT S => c_take1 rs rq vl vq m ba bm bl bk known hR hq hmq N IH T i h hi hn hl w hT S

end Go.Proofs

/-
  Contracts of functions of the program: each by symbolic execution of its text.
-/
namespace Go.Proofs
open Go Go.Vk Go.Vk.Flow

open Go.Vk.Deed
theorem set_len {L : List Int} {vis : List (Int × Bool)} (hv : Vis (setM L) vis) : vis.length ≤ L.length := by
  have h := nodup_le (l := vis.map (·.1)) (m := L) hv.nd fun x hx => by
    obtain ⟨q, hq, rfl⟩ := List.mem_map.1 hx
    have := hv.of q hq
    unfold setM at this
    split at this
    · assumption
    cases this
  rwa [List.length_map] at h
theorem tops_len {R : Nat → Nat → Bool} {st : Nat → Bool} {n i : Nat} {T : List Nat} (h : Tops R st n T i) : T.length ≤ n := by
  have := nodup_le h.nd fun q hq => List.mem_range.2 (h.lt q hq)
  rwa [List.length_range] at this
theorem lineage_fin {rs rq : List Rw} {known day o : Int} (hR : rightD (dl rs) = true) (ho : own o = true) (hq : dl rq = counting (dl rs) known) (hnd : ((dl rq).map (·.id)).Nodup) {T : List Nat} (h : Tops (restsB (dl rs) (dl rq)) (startB (dl rs) (dl rq) day o) rq.length T rq.length)
    {vis : List (Int × Bool)} (hv : Vis (setM (T.map (idAt (dl rq)))) vis) (hall : ∀ k a, setM (T.map (idAt (dl rq))) k = some a → (k, a) ∈ vis) {l' : List Int} (hp : l'.Perm (vis.map (·.1))) (hs : SortedL cmpI l') : l' = lineageD (dl rs) known day o := by
  have h1 := tops_lin (l := dl rs) (c := dl rq) hnd (by rw [dl_len]; exact h)
  have h2 := setM_perm (idAt_nd hnd h.nd fun k hk => by rw [dl_len]; exact h.lt k hk) hv hall
  rw [hq] at h1 h2
  exact lineage_of hR ho h1 (hp.trans h2) hs
theorem start_eq {l c : List D} {day o : Int} {i : Nat} {x : D} (hx : c[i]? = some x) : startB l c day o i = (decide (x.day ≤ day) && (nm l x).contains o) := by
  unfold startB; rw [hx]

set_option maxHeartbeats 4000000 in
/-- couchant/deed.Lineage. -/
theorem c_Lineage (rs : List Rw) (vl : Value) (known : Int) (day o : Int) (w : World) (hD : DsR 45 3 w vl rs) :
    Cl Tryz.prog 17 #[vl, .int .i64 known, .int .i64 day, .int .i64 o] w fun v w' => New w w' (vec EI v (lineageD (dl rs) known day o)) ∧ Le w w' := by
  refine fn_of_run (args := [_, _, _, _]) 64 Tryz.func17 rfl rfl rfl fun cs => ?_
  have S := Own.start (X := nob) w
  refine r_seq ?_
  refine r_region ?_
  refine l_box S rfl (Rd.cells (hD.rd.le S.le)) ?_
  intro b4 w1 S2 hl3
  refine l_x rfl (x_as rfl) ?_
  refine l_nil ?_
  refine r_seq ?_
  refine r_seq ?_
  refine r_region ?_
  refine l_x rfl (x_load rfl (ld_blk (S2.blk 0 rfl) Tryz.isAgg22 rfl)) ?_
  refine l_call [] [] [_] rfl rfl Tryz.call39 rfl (c_right rs _ _ (hD.le S2.le)) ?_
  rintro _ w5 ⟨rfl, hl7⟩
  have S6 := S2.step hl7
  refine l_x rfl (x_not rfl) ?_
  refine l_x rfl (x_mv rfl) ?_
  refine l_split (d := 19) rfl (fun hg19 => ?_) (fun hg19 => ?_)
  · skip
    refine l_pass rfl ?_
    refine l_pass rfl ?_
    refine l_pass rfl ?_
    refine l_pass rfl ?_
    refine l_x rfl (x_pick_t rfl rfl) ?_
    refine l_nil ?_
    refine r_true rfl ?_
    refine r_seq ?_
    refine r_region ?_
    refine l_x rfl (x_as rfl) ?_
    refine l_nil ?_
    refine r_ret (rs := [.tmp 8]) [_] Tryz.func17 rfl ⟨rfl, trivial⟩ ?_
    exact ⟨by rw [lineageD, if_neg (by simp_all)]; exact New.nilvec .., S6.le⟩
  have hR : rightD (dl rs) = true := by simpa using hg19
  refine l_x rfl (x_mv rfl) ?_
  refine l_buildSlice EI [o] S6 rfl Tryz.runUnderlying23 Tryz.sizeOf3 Tryz.zeroValue3 rfl ⟨rfl, rfl, trivial⟩ (Nat.le_of_ble_eq_true rfl) ?_
  intro v11 w8 S9 hl10
  refine l_call [] [] [_] rfl rfl Tryz.call42 rfl (c_owned _ _ (by first | omega | exact Nat.le_of_ble_eq_true rfl) _ (vec_rd (S9.at 1 rfl))) ?_
  rintro _ w12 ⟨rfl, hl14⟩
  have S13 := S9.step hl14
  refine l_x rfl (x_not rfl) ?_
  refine l_x rfl (x_pick_f rfl rfl) ?_
  refine l_nil ?_
  refine r_if rfl (fun hc24 => ?_) (fun hc24 => ?_)
  · skip
    refine r_seq ?_
    refine r_region ?_
    refine l_x rfl (x_as rfl) ?_
    refine l_nil ?_
    refine r_ret (rs := [.tmp 8]) [_] Tryz.func17 rfl ⟨rfl, trivial⟩ ?_
    exact ⟨by rw [lineageD, if_neg (by simp_all)]; exact New.nilvec .., S13.le⟩
  have ho : own o = true := by simpa using hc24
  refine r_skip ?_
  refine r_seq ?_
  refine r_region ?_
  refine l_x rfl (x_load rfl (ld_blk (S13.blk 0 rfl) Tryz.isAgg22 rfl)) ?_
  refine l_x rfl (x_mv rfl) ?_
  refine l_call [] [] [_, _] rfl rfl Tryz.call41 rfl (c_counting rs _ known (right_asc hR) (by have := right_len hR; rw [dl_len] at this; exact this) _ (hD.le S13.le)) ?_
  rintro v2715 w15 ⟨rq2715, hq2715, hm2715, hN2715, hl2715⟩
  have S16 := S13.add hl2715 hN2715
  have hlq2715 : rq2715.length ≤ 400 := by rw [← dl_len, hq2715]; exact count_len hR
  refine l_alloc S16 rfl Tryz.zeroValue22 rfl ?_
  intro b20 w17 S18 hl19
  refine l_storeq (c' := [_]) (v := v2715) S18 3 rfl rfl rfl rfl (Rd.one (vec_rd (S18.at 2 rfl))) Tryz.sizeOf22 (by first | (simp; done) | exact Nat.le_of_ble_eq_true rfl) rfl ?_
  intro w21 S22 hk23
  refine l_nil ?_
  refine r_seq ?_
  obtain ⟨rq, hrqe⟩ : ∃ q, q = rq2715 := ⟨_, rfl⟩
  subst hrqe
  have hqq := hq2715
  have hmq := hm2715
  have hrl := hlq2715
  have hnd := (right_play (known := known) hR).nd
  rw [← hqq] at hnd
  refine r_region ?_
  refine l_makeMap kInt Value.bool S22 rfl ?_
  intro m27 w24 S25 hl26
  refine l_alloc S25 rfl Tryz.zeroValue86 rfl ?_
  intro b31 w28 S29 hl30
  refine l_storeq (c' := [_]) S29 5 rfl rfl rfl rfl rfl Tryz.sizeOf86 (by first | (simp; done) | exact Nat.le_of_ble_eq_true rfl) rfl ?_
  intro w32 S33 hk34
  refine l_nil ?_
  refine r_seq ?_
  refine r_region ?_
  refine l_alloc S33 rfl Tryz.zeroValue87 rfl ?_
  intro b38 w35 S36 hl37
  refine l_nil ?_
  refine r_seq ?_
  refine r_region ?_
  refine l_x rfl (x_func rfl rfl) ?_
  refine l_storeq (c' := [_]) S36 6 rfl rfl rfl rfl rfl Tryz.sizeOf87 (by first | (simp; done) | exact Nat.le_of_ble_eq_true rfl) rfl ?_
  intro w39 S40 hk41
  refine l_nil ?_
  refine r_seq ?_
  refine r_seq ?_
  refine r_region ?_
  refine l_x rfl (x_load rfl (ld_blk (S40.blk 3 rfl) Tryz.isAgg22 rfl)) ?_
  refine l_x rfl (x_len (vec_rd (S40.at 2 rfl)) rfl Tryz.runUnderlying22) ?_
  refine l_x rfl (x_mv rfl) ?_
  refine l_nil ?_
  refine r_block ?_
  refine r_loop (G := Nat × List Nat) (fun ⟨i, T⟩ => rq.length - i) (fun ⟨i, T⟩ => [(2, .int .i64 day), (3, .int .i64 o), (4, .pointer (some ⟨b4, 0, none⟩)), (9, .pointer (some ⟨b20, 0, none⟩)), (10, .pointer (some ⟨b31, 0, none⟩)), (11, .pointer (some ⟨b38, 0, none⟩)), (30, v2715), (31, .int .i64 rq.length), (32, .int .i64 i)]) (fun ⟨i, T⟩ w' => (i ≤ rq.length) ∧ (Tops (restsB (dl rs) (dl rq)) (startB (dl rs) (dl rq) day o) rq.length T i) ∧ Own nob w w' [blk b4 [vl] 22, blk b20 [v2715] 22, blk b31 [.map (some m27)] 86, blk b38 [.func (.func 43) #[] #[.pointer (some ⟨b20, 0, none⟩), .pointer (some ⟨b31, 0, none⟩), .pointer (some ⟨b4, 0, none⟩), .pointer (some ⟨b38, 0, none⟩)]] 87, vec ED v2715 rq, mapr kInt Value.bool m27 (setM (T.map (idAt (dl rq))))]) (0, []) ⟨rfl, rfl, rfl, rfl, rfl, rfl, rfl, rfl, rfl, trivial⟩ ⟨Nat.zero_le _, .nil, (by rw [List.map_nil, ← setM_nil]; exact S40.pick [0, 3, 5, 6, 2, 4] (by decide) rfl)⟩ ?_
  rintro ⟨i, T⟩ ρ w1 ⟨hii, hTp, S1⟩ IH
  refine r_seq ?_
  refine r_region ?_
  refine l_x rfl (x_lss rfl rfl) ?_
  refine l_nil ?_
  refine r_seq ?_
  refine r_ifd rfl (fun hc33 => ?_) (fun hc33 => ?_)
  · skip
    have hil : i < rq.length := by omega
    obtain ⟨a, ha⟩ : ∃ a, rq[i]? = some a := ⟨_, List.getElem?_eq_getElem hil⟩
    have ham := List.mem_of_getElem? ha
    have hnla := nm_len (fun y hy => right_formed hR hy) (right_formed hR (mem_dl (hmq _ ham)))
    have hse := start_eq (l := dl rs) (day := day) (o := o) (dl_get ha)
    have hst := tops_len hTp
    refine r_skip ?_
    refine r_seq ?_
    refine r_block ?_
    refine r_seq ?_
    refine r_region ?_
    refine l_x rfl (x_mv rfl) ?_
    refine l_index ED rfl (vec_rd (S1.at 4 rfl)) rfl rfl Tryz.runUnderlying22 Tryz.sizeOf45 (by omega) ha ?_
    intro b42 o43 hat44 row45
    refine l_x rfl (x_load rfl (ld_row Tryz.isAgg45 Tryz.sizeOf45 rfl row45)) ?_
    refine l_alloc S1 rfl Tryz.zeroValue45 rfl ?_
    intro b49 w46 S47 hl48
    refine l_x rfl (x_as rfl) ?_
    refine l_stores (vs := [_, _, _, _, _, _, _, _, _, _, _]) S47 6 rfl rfl rfl rfl (ones_cons rfl (ones_cons rfl (ones_cons rfl (ones_cons rfl (ones_cons rfl (ones_cons rfl (ones_cons rfl (ones_cons rfl (ones_cons rfl (ones_cons (Rd.one ((hD.sub a (hmq a ham)).1.le S47.le)) (ones_cons (Rd.one ((hD.sub a (hmq a ham)).2.le S47.le)) ones_nil))))))))))) Tryz.sizeOf45 (by first | exact Nat.le_refl _ | simp) (splice_all rfl) ?_
    intro w50 S51 hk52
    refine l_nil ?_
    refine r_seq ?_
    refine r_region ?_
    refine l_x rfl (x_fieldAddr rfl Tryz.runUnderlying45 rfl Tryz.sizeOf3 (by decide)) ?_
    refine l_x rfl (x_load rfl (ld_blk (S51.blk 6 rfl) Tryz.isAgg3 rfl)) ?_
    refine l_x rfl (x_mv rfl) ?_
    refine l_x rfl (x_leq rfl rfl) ?_
    refine l_x rfl (x_mv rfl) ?_
    refine l_splitd (d := 41) rfl (fun hg41 => ?_) (fun hg41 => ?_)
    · skip
      refine l_x rfl (x_load rfl (ld_blk (S51.blk 0 rfl) Tryz.isAgg22 rfl)) ?_
      refine l_x rfl (x_load rfl (ld_blks (S51.blk 6 rfl) Tryz.isAgg45 Tryz.sizeOf45 rfl rfl)) ?_
      refine l_call [] [] [_, _] rfl rfl Tryz.call45 rfl (c_names rs vl a (fun y hy => right_formed hR hy) (right_formed hR (mem_dl (hmq a ham))) (fun k => by have h9 := right_of hR (mem_dl (hmq a ham)) k; rw [dl_len] at h9; exact ⟨h9.1, _, List.getElem?_eq_getElem (by omega)⟩) _ (hD.le S51.le) ((hD.sub a (hmq a ham)).le S51.le)) ?_
      rintro v4453 w53 ⟨hN4453, hl4453⟩
      have S54 := S51.add hl4453 hN4453
      refine l_x rfl (x_mv rfl) ?_
      refine l_call [] [] [_, _] rfl rfl Tryz.call46 rfl (c_Contains _ _ _ (by omega) _ (vec_rd (S54.at 7 rfl))) ?_
      rintro _ w55 ⟨rfl, hl57⟩
      have S56 := S54.step hl57
      refine l_x rfl (x_pick_t rfl rfl) ?_
      refine l_nil ?_
      refine r_if rfl (fun hc47 => ?_) (fun hc47 => ?_)
      · skip
        refine r_region ?_
        refine l_x rfl (x_load rfl (ld_blk (S56.blk 3 rfl) Tryz.isAgg87 rfl)) ?_
        refine l_x rfl (x_mv rfl) ?_
        refine l_call [] [_, _, _, _] [_, _, _, _, _] rfl rfl Tryz.call43 rfl (c_take rs rq vl v2715 m27 b20 b31 b4 b38 known hR hqq hmq (rq.length + 1) T i _ (by omega) hil hTp.nd hTp.lt (fun wz hk => ⟨⟨vec_rd ((S56).beside 5 4 rfl rfl (by decide) hk), fun a ha => (hD.sub a (hmq a ha)).le (hk.old (S56).le (fun c hc => ((S56).bd 5 _ rfl c hc).2.resolve_right id)), by omega⟩, hD.le (hk.old (S56).le (fun c hc => ((S56).bd 5 _ rfl c hc).2.resolve_right id)), ((S56).beside 5 1 rfl rfl (by decide) hk), ((S56).beside 5 2 rfl rfl (by decide) hk), ((S56).beside 5 0 rfl rfl (by decide) hk), ((S56).beside 5 3 rfl rfl (by decide) hk)⟩) ((S56).lend 5 rfl)) ?_
        rintro _ w58 ⟨T2, hK, hb60⟩
        have S59 := S56.back 5 rfl hb60
        refine l_nil ?_
        refine r_inBlock ?_
        refine r_region ?_
        refine l_x rfl (x_add rfl rfl (by omega)) ?_
        refine l_x rfl (x_mv rfl) ?_
        refine l_nil ?_
        have hrk : (startB (dl rs) (dl rq) day o) i = true := by rw [hse]; first | (simp_all; done) | (simp_all; intros; omega)
        exact IH (i + 1, T2) _ _ (by dsimp only; omega) ⟨rfl, rfl, rfl, rfl, rfl, rfl, rfl, rfl, rfl, trivial⟩ ⟨by omega, hTp.take hrk hK, (S59.take 6)⟩
      refine r_skip ?_
      refine r_inBlock ?_
      refine r_region ?_
      refine l_x rfl (x_add rfl rfl (by omega)) ?_
      refine l_x rfl (x_mv rfl) ?_
      refine l_nil ?_
      have hrk : (startB (dl rs) (dl rq) day o) i = false := by rw [hse]; first | (simp_all; done) | (simp_all; intros; omega)
      exact IH (i + 1, T) _ _ (by dsimp only; omega) ⟨rfl, rfl, rfl, rfl, rfl, rfl, rfl, rfl, rfl, trivial⟩ ⟨by omega, hTp.skip hrk, (S56.take 6)⟩
    refine l_pass rfl ?_
    refine l_pass rfl ?_
    refine l_pass rfl ?_
    refine l_pass rfl ?_
    refine l_pass rfl ?_
    refine l_x rfl (x_pick_f rfl rfl) ?_
    refine l_nil ?_
    refine r_false rfl ?_
    refine r_skip ?_
    refine r_inBlock ?_
    refine r_region ?_
    refine l_x rfl (x_add rfl rfl (by omega)) ?_
    refine l_x rfl (x_mv rfl) ?_
    refine l_nil ?_
    have hrk : (startB (dl rs) (dl rq) day o) i = false := by rw [hse]; first | (simp_all; done) | (simp_all; intros; omega)
    exact IH (i + 1, T) _ _ (by dsimp only; omega) ⟨rfl, rfl, rfl, rfl, rfl, rfl, rfl, rfl, rfl, trivial⟩ ⟨by omega, hTp.skip hrk, (S51.take 6)⟩
  obtain rfl : i = rq.length := by omega
  have hst := tops_len hTp
  refine r_exit rfl ?_
  refine r_seq ?_
  refine r_region ?_
  refine l_x rfl (x_as rfl) ?_
  have S61 := S1.nilvec (E := EI)
  refine l_nil ?_
  refine r_seq ?_
  refine r_seq ?_
  obtain ⟨es, clock, hm, hM⟩ := S61.at 5 rfl
  have So := S61.as 5 rfl (r' := obj m27 (.map es clock)) hm (fun c h => h)
  refine r_region ?_
  refine l_x rfl (x_load rfl (ld_blk (So.blk 2 rfl) Tryz.isAgg86 rfl)) ?_
  refine l_range kInt Value.bool So rfl Tryz.runUnderlying86 rfl (by first | exact So.obj 5 rfl | exact So.obj 1 rfl) ?_
  intro it65 w62 S63 hl64
  refine l_nil ?_
  refine r_block ?_
  refine r_loop (G := List (Int × Bool) × Value) (fun ⟨vis, vo⟩ => es.size - vis.length) (fun ⟨vis, vo⟩ => [(14, vo), (53, .pointer (some ⟨it65, 0, none⟩))]) (fun ⟨vis, vo⟩ w' => (Vis (setM (T.map (idAt (dl rq)))) vis) ∧ Own nob w w' [vec EI vo (vis.map (·.1)), obj m27 (.map es clock), itr kInt Value.bool it65 m27 es clock vis]) ([], .slice none 0 0) ⟨rfl, rfl, trivial⟩ ⟨.nil, (S63.pick [6, 5, 7] (by decide) rfl)⟩ ?_
  rintro ⟨vis, vo⟩ ρ w1b ⟨hV, S1b⟩ IHb
  have hvl := set_len hV
  rw [List.length_map] at hvl
  refine r_seq ?_
  refine r_region ?_
  refine l_next S1b 2 rfl rfl keyI (fun _ _ h => by cases h; rfl) hM rfl (by first | exact S1b.obj 5 rfl | exact S1b.obj 1 rfl) (fun hAll => ?_) (fun c a w66 hfc hnew S67 hk68 => ?_)
  · skip
    refine l_x rfl (x_extract rfl rfl) ?_
    refine l_nil ?_
    refine r_seq ?_
    refine r_false rfl ?_
    refine r_exit rfl ?_
    refine r_seq ?_
    refine r_region ?_
    refine l_x rfl (x_mv rfl) ?_
    refine l_call [] [] [_, _] rfl rfl Tryz.call47 rfl (c_sortedInt _ _ (by have := set_len hV; rw [List.length_map] at *; omega) _ (vec_rd (S1b.at 0 rfl))) ?_
    rintro v6369 w69 ⟨l6369, hp6369, hs6369, hN6369, hl6369⟩
    have S70 := S1b.add hl6369 hN6369
    refine l_x rfl (x_as rfl) ?_
    refine l_nil ?_
    refine r_ret (rs := [.tmp 8]) [_] Tryz.func17 rfl ⟨rfl, trivial⟩ ?_
    obtain rfl : l6369 = lineageD (dl rs) known day o := lineage_fin hR ho hqq hnd hTp hV hAll hp6369 hs6369
    exact ⟨S70.new 3 rfl, S70.le⟩
  have hlen := itr_len (S67.at 2 rfl)
  rw [List.length_append, List.length_singleton] at hlen
  have hV2 := hV.step hfc hnew
  have hvl := set_len hV
  rw [List.length_map] at hvl
  refine l_x rfl (x_extract rfl rfl) ?_
  refine l_nil ?_
  refine r_seq ?_
  refine r_true rfl ?_
  refine r_skip ?_
  refine r_block ?_
  refine r_seq ?_
  refine r_region ?_
  refine l_x rfl (x_entry (S67.at 2 rfl) hM (by first | exact S67.obj 5 rfl | exact S67.obj 1 rfl) rfl) ?_
  refine l_x rfl (x_extract rfl rfl) ?_
  refine l_x rfl (x_as rfl) ?_
  refine l_nil ?_
  refine r_region ?_
  refine l_x rfl (x_mv rfl) ?_
  refine l_x rfl (x_mv rfl) ?_
  refine l_buildSlice EI [c] S67 rfl Tryz.runUnderlying23 Tryz.sizeOf3 Tryz.zeroValue3 rfl ⟨rfl, rfl, trivial⟩ (Nat.le_of_ble_eq_true rfl) ?_
  intro v74 w71 S72 hl73
  refine l_append EI S72 0 rfl rfl rfl rfl (vec_rd (S72.at 3 rfl)) Tryz.underlying23 info3 rfl rfl rfl (by unfold maxLen; rw [List.length_map, List.length_singleton]; omega) (by rw [List.length_map, List.length_singleton]; show _ * 8 ≤ _; omega) ?_
  intro v78 w75 S76 hk77 hv79
  refine l_x rfl (x_as rfl) ?_
  refine l_nil ?_
  refine r_inBlock ?_
  exact IHb (vis ++ [(c, a)], v78) _ _ (by dsimp only; rw [List.length_append, List.length_singleton]; omega) ⟨rfl, rfl, trivial⟩ ⟨hV2, (by rw [List.map_append]; exact S76.take 3)⟩

end Go.Proofs

/-
  Contracts of functions of the program: each by symbolic execution of its text.
-/
namespace Go.Proofs
open Go Go.Vk Go.Vk.Flow

open Go.Vk.Deed Go.Vk.Share

/-- couchant/couchanttop.deeds. -/
theorem c_deeds (rs : List Rw) (vl : Value) (w : World) (hD : DsR 45 3 w vl rs) :
    Cl Tryz.prog 6 #[vl] w fun v w' => v = .bool (deedsB (dl rs)) ∧ Le w w' := by
  have hml := hD.lm
  refine fn_of_run (args := [_]) 29 Tryz.func6 rfl rfl rfl fun cs => ?_
  have S := Own.start (X := nob) w
  refine r_seq ?_
  refine r_region ?_
  refine l_x rfl (x_as rfl) ?_
  refine l_nil ?_
  refine r_seq ?_
  refine r_seq ?_
  refine r_region ?_
  refine l_x rfl (x_as rfl) ?_
  refine l_nil ?_
  refine r_block ?_
  refine r_loop (G := Nat) (fun i => rs.length - i) (fun i => [(0, vl), (3, .int .i64 i)]) (fun i w' => (i ≤ rs.length) ∧ (∀ x ∈ rs.take i, shortD x.1 = true) ∧ Own nob w w' []) 0 ⟨rfl, rfl, trivial⟩ ⟨Nat.zero_le _, by simp, S⟩ ?_
  rintro i ρ w1 ⟨hi, hp, S1⟩ IH
  refine r_seq ?_
  refine r_seq ?_
  refine r_region ?_
  refine l_x rfl (x_mv rfl) ?_
  refine l_x rfl (x_mv rfl) ?_
  refine l_x rfl (x_len (hD.rd.le S1.le) rfl Tryz.runUnderlying22) ?_
  refine l_x rfl (x_lss rfl rfl) ?_
  refine l_nil ?_
  refine r_ifd rfl (fun hc7 => ?_) (fun hc7 => ?_)
  · skip
    obtain ⟨a, ha⟩ : ∃ a, rs[i]? = some a := ⟨_, List.getElem?_eq_getElem (by omega)⟩
    have ham := List.mem_of_getElem? ha
    refine r_skip ?_
    refine r_seq ?_
    refine r_block ?_
    refine r_seq ?_
    refine r_region ?_
    refine l_x rfl (x_mv rfl) ?_
    refine l_x rfl (x_mv rfl) ?_
    refine l_index ED rfl (hD.rd.le S1.le) rfl rfl Tryz.runUnderlying22 Tryz.sizeOf45 (by omega) ha ?_
    intro b1 o2 hat3 row4
    refine l_x rfl (x_fieldAddr rfl Tryz.runUnderlying45 rfl Tryz.sizeOf23 (by decide)) ?_
    refine l_x rfl (x_load rfl (ld_cell Tryz.isAgg23 (row4 9 _ rfl))) ?_
    refine l_x rfl (x_len ((hD.sub a ham).1.le S1.le) rfl Tryz.runUnderlying23) ?_
    refine l_x rfl (x_gtr rfl rfl) ?_
    refine l_x rfl (x_mv rfl) ?_
    refine l_splitd (d := 17) rfl (fun hg17 => ?_) (fun hg17 => ?_)
    · skip
      refine l_pass rfl ?_
      refine l_pass rfl ?_
      refine l_pass rfl ?_
      refine l_pass rfl ?_
      refine l_pass rfl ?_
      refine l_pass rfl ?_
      refine l_pass rfl ?_
      refine l_x rfl (x_pick_t rfl rfl) ?_
      refine l_nil ?_
      refine r_true rfl ?_
      refine r_seq ?_
      refine r_region ?_
      refine l_x rfl (x_as rfl) ?_
      refine l_nil ?_
      refine r_ret (rs := [.tmp 2]) [_] Tryz.func6 rfl ⟨rfl, trivial⟩ ?_
      exact ⟨congrArg Value.bool (deeds_no ha (by unfold shortD; simp only [Bool.and_eq_false_iff, decide_eq_false_iff_not]; omega)).symm, S1.le⟩
    refine l_x rfl (x_mv rfl) ?_
    refine l_x rfl (x_mv rfl) ?_
    refine l_index ED rfl (hD.rd.le S1.le) rfl rfl Tryz.runUnderlying22 Tryz.sizeOf45 (by omega) ha ?_
    intro b5 o6 hat7 row8
    refine l_x rfl (x_fieldAddr rfl Tryz.runUnderlying45 rfl Tryz.sizeOf23 (by decide)) ?_
    refine l_x rfl (x_load rfl (ld_cell Tryz.isAgg23 (row8 10 _ rfl))) ?_
    refine l_x rfl (x_len ((hD.sub a ham).2.le S1.le) rfl Tryz.runUnderlying23) ?_
    refine l_x rfl (x_gtr rfl rfl) ?_
    refine l_x rfl (x_pick_f rfl rfl) ?_
    refine l_nil ?_
    refine r_ifd rfl (fun hc25 => ?_) (fun hc25 => ?_)
    · skip
      refine r_seq ?_
      refine r_region ?_
      refine l_x rfl (x_as rfl) ?_
      refine l_nil ?_
      refine r_ret (rs := [.tmp 2]) [_] Tryz.func6 rfl ⟨rfl, trivial⟩ ?_
      exact ⟨congrArg Value.bool (deeds_no ha (by unfold shortD; simp only [Bool.and_eq_false_iff, decide_eq_false_iff_not]; omega)).symm, S1.le⟩
    refine r_skip ?_
    refine r_inBlock ?_
    refine r_region ?_
    refine l_x rfl (x_mv rfl) ?_
    refine l_x rfl (x_add rfl rfl (by omega)) ?_
    refine l_x rfl (x_as rfl) ?_
    refine l_nil ?_
    exact IH (i + 1) _ _ (by omega) ⟨rfl, rfl, trivial⟩ ⟨by omega, all_step9 hp ha (by unfold shortD; simp only [Bool.and_eq_true, decide_eq_true_eq]; omega), S1⟩
  obtain rfl : i = rs.length := by omega
  rw [List.take_length] at hp
  refine r_exit rfl ?_
  refine r_seq ?_
  refine r_region ?_
  refine l_x rfl (x_mv rfl) ?_
  refine l_x rfl (x_len (hD.rd.le S1.le) rfl Tryz.runUnderlying22) ?_
  refine l_x rfl (x_leq rfl rfl) ?_
  refine l_x rfl (x_as rfl) ?_
  refine l_nil ?_
  refine r_ret (rs := [.tmp 2]) [_] Tryz.func6 rfl ⟨rfl, trivial⟩ ?_
  exact ⟨congrArg Value.bool (deeds_yes hp).symm, S1.le⟩

def inhR (h1 h2 : Hd) : List Rw := [(⟨1, 0, 0, 1, 0, 1, 10080, 0, 0, [], []⟩, (none, 0, 0), (none, 0, 0)), (⟨2, 4, 5, 3, 1, 0, 0, 0, 0, [2, 3, 4], [1, 1, 2]⟩, h1, h2)]
theorem inh_dl {h1 h2 : Hd} : dl (inhR h1 h2) = inhD := rfl
theorem dsr_inh {w : World} {v : Value} {h1 h2 : Hd} (h : Rd ED w v (inhR h1 h2)) (g1 : Rd EI w (hv h1) [2, 3, 4]) (g2 : Rd EI w (hv h2) [1, 1, 2]) : DsR 45 3 w v (inhR h1 h2) := ⟨h, fun a ha => by
  simp only [inhR, List.mem_cons, List.not_mem_nil, or_false] at ha
  rcases ha with rfl | rfl
  · exact ⟨rd_nil, rd_nil, Nat.zero_le _, Nat.zero_le _⟩
  exact ⟨g1, g2, (Nat.le_of_ble_eq_true rfl : 3 ≤ maxLen), (Nat.le_of_ble_eq_true rfl : 3 ≤ maxLen)⟩, (Nat.le_of_ble_eq_true rfl : 2 ≤ maxLen)⟩

set_option maxHeartbeats 4000000 in
/-- couchant/couchanttop.inherited. -/
theorem c_inherited  (w : World) :
    Cl Tryz.prog 7 #[] w fun v w' => v = .bool true ∧ Le w w' := by
  refine fn_of_run (args := []) 48 Tryz.func7 rfl rfl rfl fun cs => ?_
  have S := Own.start (X := nob) w
  refine r_seq ?_
  refine r_region ?_
  refine l_x rfl (x_as rfl) ?_
  refine l_nil ?_
  refine r_seq ?_
  refine r_region ?_
  refine l_x rfl (x_buildS (out := [_, _, _, _, _, _, _, _, _, _, _]) (ss := [1, 1, 1, 1, 1, 1, 1, 1, 1, 1, 1]) Tryz.zeroValue45 rfl Tryz.runUnderlying45 ⟨Tryz.sizeOf3, Tryz.sizeOf3, Tryz.sizeOf3, Tryz.sizeOf5, Tryz.sizeOf3, Tryz.sizeOf3, Tryz.sizeOf3, Tryz.sizeOf3, Tryz.sizeOf3, Tryz.sizeOf23, Tryz.sizeOf23, trivial⟩ (fill_cons rfl rfl rfl (Nat.le_of_ble_eq_true rfl) (fill_cons rfl rfl rfl (Nat.le_of_ble_eq_true rfl) (fill_cons rfl rfl rfl (Nat.le_of_ble_eq_true rfl) (fill_cons rfl rfl rfl (Nat.le_of_ble_eq_true rfl) fill_nil))))) ?_
  refine l_buildSlice EI [2, 3, 4] S rfl Tryz.runUnderlying23 Tryz.sizeOf3 Tryz.zeroValue3 rfl ⟨rfl, rfl, rfl, rfl, rfl, rfl, trivial⟩ (Nat.le_of_ble_eq_true rfl) ?_
  intro v4 w1 S2 hl3
  refine l_buildSlice EI [1, 1, 2] S2 rfl Tryz.runUnderlying23 Tryz.sizeOf3 Tryz.zeroValue3 rfl ⟨rfl, rfl, rfl, rfl, rfl, rfl, trivial⟩ (Nat.le_of_ble_eq_true rfl) ?_
  intro v8 w5 S6 hl7
  refine l_x rfl (x_buildS (out := [_, _, _, _, _, _, _, _, _, _, _]) (ss := [1, 1, 1, 1, 1, 1, 1, 1, 1, 1, 1]) Tryz.zeroValue45 rfl Tryz.runUnderlying45 ⟨Tryz.sizeOf3, Tryz.sizeOf3, Tryz.sizeOf3, Tryz.sizeOf5, Tryz.sizeOf3, Tryz.sizeOf3, Tryz.sizeOf3, Tryz.sizeOf3, Tryz.sizeOf3, Tryz.sizeOf23, Tryz.sizeOf23, trivial⟩ (fill_cons rfl rfl rfl (Nat.le_of_ble_eq_true rfl) (fill_cons rfl rfl rfl (Nat.le_of_ble_eq_true rfl) (fill_cons rfl rfl rfl (Nat.le_of_ble_eq_true rfl) (fill_cons rfl rfl rfl (Nat.le_of_ble_eq_true rfl) (fill_cons rfl rfl rfl (Nat.le_of_ble_eq_true rfl) (fill_cons rfl (Rd.cells (vec_rd (S6.at 0 rfl))) rfl (Nat.le_of_ble_eq_true rfl) (fill_cons rfl (Rd.cells (vec_rd (S6.at 1 rfl))) rfl (Nat.le_of_ble_eq_true rfl) fill_nil)))))))) ?_
  obtain ⟨a7, c7, e7, _⟩ := vec_rd (S6.at 0 rfl)
  obtain ⟨a8, c8, e8, _⟩ := vec_rd (S6.at 1 rfl)
  subst e7 e8
  refine l_buildSlice ED (inhR (a7, 3, c7) (a8, 3, c8)) S6 rfl Tryz.runUnderlying22 Tryz.sizeOf45 Tryz.zeroValue45 rfl ⟨rfl, rfl, rfl, rfl, trivial⟩ (Nat.le_of_ble_eq_true rfl) ?_
  intro v12 w9 S10 hl11
  refine l_x rfl (x_as rfl) ?_
  refine l_nil ?_
  refine r_seq ?_
  refine r_region ?_
  refine l_x rfl (x_mv rfl) ?_
  refine l_call [] [] [_] rfl rfl Tryz.call13 rfl ((c_Check (inhR (a7, 3, c7) (a8, 3, c8)) _ _ (dsr_inh (vec_rd (S10.at 2 rfl)) (vec_rd (S10.at 0 rfl)) (vec_rd (S10.at 1 rfl)))).mono (fun v w' h => (⟨h.1.trans (by rw [inh_dl, inh_chk]), h.2⟩ : v = .tuple #[.int .i64 0, .int .i64 0] ∧ Le _ w'))) ?_
  rintro _ w13 ⟨rfl, hl15⟩
  have S14 := S10.step hl15
  refine l_x rfl (x_mv rfl) ?_
  refine l_x rfl (x_extract rfl rfl) ?_
  refine l_x rfl (x_extract rfl rfl) ?_
  refine l_x rfl (x_as rfl) ?_
  refine l_x rfl (x_as rfl) ?_
  refine l_nil ?_
  refine r_seq ?_
  refine r_region ?_
  refine l_x rfl (x_mv rfl) ?_
  refine l_call [] [] [_, _, _, _] rfl rfl Tryz.call8 rfl ((c_Uses (inhR (a7, 3, c7) (a8, 3, c8)) _ 5 4 4 _ (dsr_inh (vec_rd (S14.at 2 rfl)) (vec_rd (S14.at 0 rfl)) (vec_rd (S14.at 1 rfl)))).mono (fun v w' h => (⟨h.1.trans (by rw [inh_dl, inh_u4]), h.2⟩ : v = .int .i64 5040 ∧ Le _ w'))) ?_
  rintro _ w16 ⟨rfl, hl18⟩
  have S17 := S14.step hl18
  refine l_call [] [] [_, _] rfl rfl Tryz.call9 rfl ((c_Norm 5040 5040 (by omega) (by omega) _).mono (fun v w' h => (⟨h.1.trans (by rw [nrm_one]), h.2⟩ : v = .tuple #[.agg (encF ⟨1, 1⟩).toArray, .int .i64 0] ∧ Le _ w'))) ?_
  rintro _ w19 ⟨rfl, hl21⟩
  have S20 := S17.step hl21
  refine l_x rfl (x_mv rfl) ?_
  refine l_x rfl (x_extract rfl rfl) ?_
  refine l_x rfl (x_extract rfl rfl) ?_
  refine l_alloc S20 rfl Tryz.zeroValue28 rfl ?_
  intro b25 w22 S23 hl24
  refine l_stores S23 3 rfl rfl rfl rfl (EF.one _) Tryz.sizeOf28 (by first | exact Nat.le_refl _ | simp) (splice_all rfl) ?_
  intro w26 S27 hk28
  refine l_x rfl (x_as rfl) ?_
  refine l_nil ?_
  refine r_seq ?_
  refine r_region ?_
  refine l_x rfl (x_mv rfl) ?_
  refine l_x rfl (x_eql rfl rfl) ?_
  refine l_x rfl (x_mv rfl) ?_
  refine l_splitd (d := 24) rfl (fun hg24 => ?_) (fun hg24 => ?_)
  · skip
    refine l_x rfl (x_mv rfl) ?_
    refine l_x rfl (x_eql rfl rfl) ?_
    refine l_x rfl (x_pick_t rfl rfl) ?_
    refine l_x rfl (x_mv rfl) ?_
    refine l_splitd (d := 28) rfl (fun hg28 => ?_) (fun hg28 => ?_)
    · skip
      refine l_x rfl (x_mv rfl) ?_
      refine l_call [] [] [_, _, _, _] rfl rfl Tryz.call8 rfl ((c_Uses (inhR (a7, 3, c7) (a8, 3, c8)) _ 4 4 1 _ (dsr_inh (vec_rd (S27.at 2 rfl)) (vec_rd (S27.at 0 rfl)) (vec_rd (S27.at 1 rfl)))).mono (fun v w' h => (⟨h.1.trans (by rw [inh_dl, inh_u1]), h.2⟩ : v = .int .i64 10080 ∧ Le _ w'))) ?_
      rintro _ w29 ⟨rfl, hl31⟩
      have S30 := S27.step hl31
      refine l_x rfl (x_eql rfl rfl) ?_
      refine l_x rfl (x_pick_t rfl rfl) ?_
      refine l_x rfl (x_mv rfl) ?_
      refine l_splitd (d := 33) rfl (fun hg33 => ?_) (fun hg33 => ?_)
      · skip
        refine l_x rfl (x_mv rfl) ?_
        refine l_call [] [] [_, _, _, _] rfl rfl Tryz.call8 rfl ((c_Uses (inhR (a7, 3, c7) (a8, 3, c8)) _ 5 4 2 _ (dsr_inh (vec_rd (S30.at 2 rfl)) (vec_rd (S30.at 0 rfl)) (vec_rd (S30.at 1 rfl)))).mono (fun v w' h => (⟨h.1.trans (by rw [inh_dl, inh_u2]), h.2⟩ : v = .int .i64 2520 ∧ Le _ w'))) ?_
        rintro _ w32 ⟨rfl, hl34⟩
        have S33 := S30.step hl34
        refine l_x rfl (x_eql rfl rfl) ?_
        refine l_x rfl (x_pick_t rfl rfl) ?_
        refine l_x rfl (x_mv rfl) ?_
        refine l_splitd (d := 38) rfl (fun hg38 => ?_) (fun hg38 => ?_)
        · skip
          refine l_x rfl (x_load rfl (ld_blks (S33.blk 3 rfl) Tryz.isAgg28 Tryz.sizeOf28 rfl rfl)) ?_
          refine l_x rfl (x_buildS (out := [_, _]) (ss := [1, 1]) Tryz.zeroValue28 rfl Tryz.runUnderlying28 ⟨Tryz.sizeOf3, Tryz.sizeOf3, trivial⟩ (fill_cons rfl rfl rfl (Nat.le_of_ble_eq_true rfl) (fill_cons rfl rfl rfl (Nat.le_of_ble_eq_true rfl) fill_nil))) ?_
          refine l_x rfl (x_eqF (b := ⟨1, 1⟩) rfl rfl) ?_
          refine l_x rfl (x_pick_t rfl rfl) ?_
          refine l_x rfl (x_mv rfl) ?_
          refine l_splitd (d := 43) rfl (fun hg43 => ?_) (fun hg43 => ?_)
          · skip
            refine l_x rfl (x_mv rfl) ?_
            refine l_call [] [] [_, _, _] rfl rfl Tryz.call15 rfl ((c_Total (inhR (a7, 3, c7) (a8, 3, c8)) _ 5 4 _ (dsr_inh (vec_rd (S33.at 2 rfl)) (vec_rd (S33.at 0 rfl)) (vec_rd (S33.at 1 rfl)))).mono (fun v w' h => (⟨h.1.trans (by rw [inh_dl, inh_t]), h.2⟩ : v = .int .i64 10080 ∧ Le _ w'))) ?_
            rintro _ w35 ⟨rfl, hl37⟩
            have S36 := S33.step hl37
            refine l_x rfl (x_eql rfl rfl) ?_
            refine l_x rfl (x_pick_t rfl rfl) ?_
            refine l_x rfl (x_as rfl) ?_
            refine l_nil ?_
            refine r_ret (rs := [.tmp 0]) [_] Tryz.func7 rfl ⟨rfl, trivial⟩ ?_
            exact ⟨rfl, S36.le⟩
          exact absurd rfl hg43
        exact absurd rfl hg38
      exact absurd rfl hg33
    exact absurd rfl hg28
  exact absurd rfl hg24

end Go.Proofs

/-
  What the rows need: how arguments are opened.
-/
namespace Go.Proofs
open Go Go.Vk Go.Vk.Flow

open Go.ChangeShapes Go.WideShapes Go.RowKit Go.Joins Go.Vk.Deed
theorem ownT : ownKnob Tryz.prog.godebug = none := by kernel_rfl
theorem laidT : laidOutB Tryz.prog = true := by kernel_rfl
theorem headsT : (Tryz.prog.mayEnter && (false == Tryz.prog.liftsFinal) && (Tryz.prog.make == some .cut)) = true := by kernel_rfl
theorem mayT : Tryz.prog.mayEnter = true := by
  have h := headsT
  rw [Bool.and_eq_true, Bool.and_eq_true] at h
  exact h.1.1
theorem liftT : Tryz.prog.liftsFinal = false := by
  have h := headsT
  rw [Bool.and_eq_true, Bool.and_eq_true] at h
  exact (beq_iff_eq.1 h.1.2).symm
theorem makeT : Tryz.prog.make = some .cut := by
  have h := headsT
  rw [Bool.and_eq_true, Bool.and_eq_true] at h
  exact beq_iff_eq.1 h.2
theorem cellsD : Tryz.prog.cellsOf 45 = 11 := by kernel_rfl
theorem deedT : ∃ fs, DeedT Tryz.prog 45 3 5 23 fs := by
  refine ⟨_, Tryz.underlying45, Tryz.underlying3, Tryz.underlying5, Tryz.underlying23, cellsI, by kernel_rfl, by kernel_rfl, fun i hi => ?_⟩
  match i, hi with
  | 0, _ => exact ⟨_, rfl, rfl, rfl⟩
  | 1, _ => exact ⟨_, rfl, rfl, rfl⟩
  | 2, _ => exact ⟨_, rfl, rfl, rfl⟩
  | 3, _ => exact ⟨_, rfl, rfl, rfl⟩
  | 4, _ => exact ⟨_, rfl, rfl, rfl⟩
  | 5, _ => exact ⟨_, rfl, rfl, rfl⟩
  | 6, _ => exact ⟨_, rfl, rfl, rfl⟩
  | 7, _ => exact ⟨_, rfl, rfl, rfl⟩
  | 8, _ => exact ⟨_, rfl, rfl, rfl⟩
  | 9, _ => exact ⟨_, rfl, rfl, rfl⟩
  | 10, _ => exact ⟨_, rfl, rfl, rfl⟩
section
variable {H : Type} {enc : TypeId × Value → H} {W : World} {base : Nat} {sp : Nat → Bool} {held : Bool} {r : Reach} {b0 : Nat}
set_option maxRecDepth 100000 in
theorem openDeeds {v : Value} {d : DataW H} {p : List MemPlace} (hv : Value.okWide Tryz.prog W r b0 22 v) (h : DataW.Trod enc Tryz.prog W base sp held 22 v d p) : ∃ rs, DsR 45 3 W v rs ∧ rs.length ≤ maxLen := by
  obtain ⟨a, len, cap, rfl⟩ := okWide_slice Tryz.underlying22 hv
  obtain ⟨fuel, hf⟩ := h
  obtain ⟨fs, hT⟩ := deedT
  exact open_deeds hT cellsD Tryz.underlying22 hf
end

end Go.Proofs

/-
  Contracts of functions of the program: each by symbolic execution of its text.
-/
namespace Go.Proofs
open Go Go.Vk Go.Vk.Flow

open Go.Vk.Deed
def lzInts (a : Lz) : List Int := [a.deed, a.frm, a.to, a.parts, a.stop]
def plInts (a : Pl) : List Int := [a.deed, a.frm, a.to, a.parts]
/-- Short lists. -/
def plainB (x : D) : Bool := decide (x.heirs.length ≤ 20 ∧ x.shares.length ≤ 20)
def fewB (l : List D) : Bool := decide (l.length ≤ 24) && l.all plainB
end Go.Proofs

/-
  Contracts of functions of the program: each by symbolic execution of its text.
-/
namespace Go.Proofs
open Go Go.Vk Go.Vk.Flow

open Go.Vk.Deed
def regR : List Rw := [(⟨1, 0, 0, 1, 0, 1, 5040, 0, 0, [], []⟩, (none, 0, 0), (none, 0, 0)), (⟨2, 0, 0, 1, 0, 2, 10080, 0, 0, [], []⟩, (none, 0, 0), (none, 0, 0)), (⟨3, 5, 5, 2, 2, 1, 2520, 0, 0, [], []⟩, (none, 0, 0), (none, 0, 0)), (⟨4, 6, 9, 4, 1, 3, 5040, 20, 0, [], []⟩, (none, 0, 0), (none, 0, 0)), (⟨5, 7, 9, 5, 2, 4, 7000, 0, 0, [], []⟩, (none, 0, 0), (none, 0, 0)), (⟨6, 8, 30, 2, 2, 3, 1000, 0, 0, [], []⟩, (none, 0, 0), (none, 0, 0)), (⟨7, 0, 40, 8, 0, 0, 0, 0, 3, [], []⟩, (none, 0, 0), (none, 0, 0)), (⟨8, 25, 50, 7, 0, 0, 0, 0, 5, [], []⟩, (none, 0, 0), (none, 0, 0))]
/-- A deed without lists. -/
theorem sub_nil (w : World) (x : D) (h1 : x.heirs = []) (h2 : x.shares = []) : SubR 3 w (x, (none, 0, 0), (none, 0, 0)) := ⟨h1 ▸ rd_nil, h2 ▸ rd_nil, by rw [h1]; exact Nat.zero_le _, by rw [h2]; exact Nat.zero_le _⟩



end Go.Proofs
