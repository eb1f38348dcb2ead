/- Texts joined for claims: T5, F12, F13, F14, F15, F16, F17, F18, F19, F20, F21, F22, F23, F24, F25, F27, F28, TL0, R0. -/
import Derived.Test.YtlegfcmlfhlokaaGreatK800097f960
import Derived.Test.YtlegfcmlfhlokaaGreatK8521e6cdc8
import Derived.Test.YtlegfcmlfhlokaaGreatK76cfbaf9ef
import Derived.Test.YtlegfcmlfhlokaaGreatRows
import Derived.Test.YtlegfcmlfhlokaaGreatKfa6611121b
set_option linter.unusedVariables false
set_option linter.unusedSimpArgs false
set_option linter.unusedSectionVars false
/-
  Contracts of functions of the program: each by symbolic execution of its text.
-/
namespace Go.Proofs
open Go Go.Vk Go.Vk.Flow

open Go.Vk.Deed Go.Vk.Share

set_option maxHeartbeats 1000000 in
/-- couchant/share.Divide$1. -/
theorem c_Divide1 (f : Fr) (l : List Int) (vp : Value) (bp bo bf bs : Nat) (w0 : World) (hL : Rd EI w0 vp l) (hm : l.length ≤ 40) (hf : validF f = true) (hl0 : ∀ x ∈ l, 0 ≤ x ∧ x ≤ 1000) (hsb : 0 < sumI l ∧ sumI l ≤ 40000) (w : World) (h0 : Le w0 w) (hX : ∀ b, (pack [blk bo [.slice none 0 0] 34, vec EF (.slice none 0 0) []]).fp b → w0.heap.size ≤ b) (hP : Blk w bp [vp] 23) (hF : Blk w bf (encF f) 28) (hSm : Blk w bs [.int .i64 (sumI l)] 3) (hnp : ¬ (pack [blk bo [.slice none 0 0] 34, vec EF (.slice none 0 0) []]).fp bp) (hnf : ¬ (pack [blk bo [.slice none 0 0] 34, vec EF (.slice none 0 0) []]).fp bf) (hns : ¬ (pack [blk bo [.slice none 0 0] 34, vec EF (.slice none 0 0) []]).fp bs) (S0 : Own (pack [blk bo [.slice none 0 0] 34, vec EF (.slice none 0 0) []]).fp w w [(pack [blk bo [.slice none 0 0] 34, vec EF (.slice none 0 0) []])]) :
    Cp Tryz.prog 32 #[.pointer (some ⟨bp, 0, none⟩), .pointer (some ⟨bo, 0, none⟩), .pointer (some ⟨bf, 0, none⟩), .pointer (some ⟨bs, 0, none⟩)] w (fun _ w' => (divL f l).all okF = true ∧ ∃ vo, Own (pack [blk bo [.slice none 0 0] 34, vec EF (.slice none 0 0) []]).fp w w' [pack [blk bo [vo] 34, vec EF vo (divL f l)]]) (fun v w' => v = (.iface 99 (.agg #[])) ∧ (divL f l).all okF = false ∧ ∃ r', Own (pack [blk bo [.slice none 0 0] 34, vec EF (.slice none 0 0) []]).fp w w' [r']) := by
  refine fn_of_runP (args := [_, _, _, _]) 25 Tryz.func32 rfl rfl rfl fun cs => ?_
  have S := S0.open
  refine r_seq ?_
  refine r_region ?_
  refine l_x rfl (x_load rfl (ld_blk (hP.keep S.keep hnp) Tryz.isAgg23 rfl)) ?_
  refine l_x rfl (x_len (hL.le (S.old h0 hX)) rfl Tryz.runUnderlying23) ?_
  refine l_x rfl (x_mv rfl) ?_
  refine l_nil ?_
  refine r_block ?_
  refine r_loop (G := Nat × Value) (fun ⟨i, vo⟩ => l.length - i) (fun ⟨i, vo⟩ => [(1, .pointer (some ⟨bo, 0, none⟩)), (2, .pointer (some ⟨bf, 0, none⟩)), (3, .pointer (some ⟨bs, 0, none⟩)), (6, vp), (7, .int .i64 l.length), (8, .int .i64 i)]) (fun ⟨i, vo⟩ w' => (i ≤ l.length) ∧ (∀ x ∈ (divL f l).take i, okF x = true) ∧ Own (pack [blk bo [.slice none 0 0] 34, vec EF (.slice none 0 0) []]).fp w w' [blk bo [vo] 34, vec EF vo ((divL f l).take i)]) (0, .slice none 0 0) ⟨rfl, rfl, rfl, rfl, rfl, rfl, trivial⟩ ⟨Nat.zero_le _, by simp, S⟩ ?_
  rintro ⟨i, vo⟩ ρ w1 ⟨hi, hg, S1⟩ IH
  refine r_seq ?_
  refine r_region ?_
  refine l_x rfl (x_lss rfl rfl) ?_
  refine l_nil ?_
  refine r_seq ?_
  refine r_ifd rfl (fun hc9 => ?_) (fun hc9 => ?_)
  · skip
    obtain ⟨p, hp⟩ : ∃ p, l[i]? = some p := ⟨_, List.getElem?_eq_getElem (by omega)⟩
    have hpb := hl0 p (List.mem_of_getElem? hp)
    refine r_skip ?_
    refine r_seq ?_
    refine r_block ?_
    refine r_seq ?_
    refine r_region ?_
    refine l_index EI rfl (hL.le (S1.old h0 hX)) rfl rfl Tryz.runUnderlying23 Tryz.sizeOf3 (by omega) hp ?_
    intro b1 o2 hat3 row4
    refine l_x rfl (x_load rfl (ld_cell Tryz.isAgg3 (row4 0 _ rfl))) ?_
    refine l_x rfl (x_as rfl) ?_
    refine l_nil ?_
    rcases Bool.eq_false_or_eq_true (okF (nrm (f.num * p) (f.den * sumI l))) with hk9 | hk9
    · skip
      refine r_drawE 11 nob Tryz.mixed (by kernel_rfl) ?_
      intro w5 hl6
      have S7 := S1.step hl6
      refine e_exact 0 _ (by kernel_rfl) rfl rfl (by kernel_rfl) rfl (ex_x rfl (fun w1 h1 => x_load rfl (ld_blk ((S7.step h1).blk 0 rfl) Tryz.isAgg34 rfl))) ?_
      refine e_exact 1 _ (by kernel_rfl) rfl rfl (by kernel_rfl) rfl (ex_x rfl (fun w1 h1 => x_fieldAddr rfl Tryz.runUnderlying28 rfl Tryz.sizeOf3 (by decide))) ?_
      refine e_exact 2 _ (by kernel_rfl) rfl rfl (by kernel_rfl) rfl (ex_x rfl (fun w1 h1 => x_load rfl (ld_blk (hF.keep (S7.step h1).keep hnf) Tryz.isAgg3 rfl))) ?_
      refine e_exact 3 _ (by kernel_rfl) rfl rfl (by kernel_rfl) rfl (ex_x rfl (fun w1 h1 => x_mv rfl)) ?_
      refine e_exact 4 _ (by kernel_rfl) rfl rfl (by kernel_rfl) rfl (ex_x rfl (fun w1 h1 => x_mul rfl rfl (by have := div_bdp hf hpb; omega))) ?_
      refine e_exact 5 _ (by kernel_rfl) rfl rfl (by kernel_rfl) rfl (ex_x rfl (fun w1 h1 => x_fieldAddr rfl Tryz.runUnderlying28 rfl Tryz.sizeOf3 (by decide))) ?_
      refine e_exact 6 _ (by kernel_rfl) rfl rfl (by kernel_rfl) rfl (ex_x rfl (fun w1 h1 => x_load rfl (ld_blk (hF.keep (S7.step h1).keep hnf) Tryz.isAgg3 rfl))) ?_
      refine e_exact 7 _ (by kernel_rfl) rfl rfl (by kernel_rfl) rfl (ex_x rfl (fun w1 h1 => x_load rfl (ld_blk (hSm.keep (S7.step h1).keep hns) Tryz.isAgg3 rfl))) ?_
      refine e_exact 8 _ (by kernel_rfl) rfl rfl (by kernel_rfl) rfl (ex_x rfl (fun w1 h1 => x_mul rfl rfl (by have := div_bds hf hsb; omega))) ?_
      refine e_next [9] (by kernel_rfl) (by kernel_rfl) ⟨⟨_, _, rfl, rfl, ?_⟩, trivial⟩
      refine s_callf [] [] [_, _] rfl rfl Tryz.call26 rfl ((c_normK (f.num * p) (f.den * sumI l) (div_bdp hf hpb) (div_bds hf hsb) hk9 _).mono ?_)
      rintro _ w8 ⟨rfl, hl10⟩
      have S9 := S7.step hl10
      refine ⟨.of_le hl10, ?_⟩
      refine e_next [10] (by kernel_rfl) (by kernel_rfl) ⟨⟨_, _, rfl, rfl, ?_⟩, trivial⟩
      refine s_buildSlice EF [(nrm (f.num * p) (f.den * sumI l))] S9 rfl Tryz.runUnderlying34 Tryz.sizeOf28 Tryz.zeroValue28 rfl ⟨rfl, rfl, trivial⟩ (by decide) ?_
      intro v14 w11 S12 hl13
      refine ⟨.of_le hl13, ?_⟩
      refine e_done (by kernel_rfl) ?_
      refine l_append EF S12 1 rfl rfl rfl rfl (vec_rd (S12.at 2 rfl)) Tryz.underlying34 info28 rfl rfl rfl (by unfold maxLen; rw [List.length_take, div_len]; simp; omega) (by rw [List.length_take, div_len]; show _ * 16 ≤ _; simp; omega) ?_
      intro v18 w15 S16 hk17 hv19
      refine l_storeq (c' := [_]) (v := v18) S16 0 rfl rfl rfl rfl (Rd.one (vec_rd (S16.at 1 rfl))) Tryz.sizeOf34 (by first | (simp; done) | exact Nat.le_of_ble_eq_true rfl) rfl ?_
      intro w20 S21 hk22
      refine l_nil ?_
      refine r_inBlock ?_
      refine r_region ?_
      refine l_x rfl (x_add rfl rfl (by omega)) ?_
      refine l_x rfl (x_mv rfl) ?_
      refine l_nil ?_
      exact IH (i + 1, v18) _ _ (by dsimp only; omega) ⟨rfl, rfl, rfl, rfl, rfl, rfl, trivial⟩ ⟨by omega, div_step hp hg hk9, (by rw [← div_snoc hp]; exact S21.take 2)⟩
    refine r_drawP (Q := (fun v w' => v = (.iface 99 (.agg #[])) ∧ ∃ r', Own (pack [blk bo [.slice none 0 0] 34, vec EF (.slice none 0 0) []]).fp w w' [r'])) 11 nob Tryz.mixed (by kernel_rfl) (fun ρ v w k hq => leaveU_panic Tryz.func32 ⟨hq.1, div_bad hp hk9, hq.2⟩) ?_
    intro w23 hl24
    have S25 := S1.step hl24
    refine p_exact 0 _ (by kernel_rfl) rfl rfl (by kernel_rfl) rfl (ex_x rfl (fun w1 h1 => x_load rfl (ld_blk ((S25.step h1).blk 0 rfl) Tryz.isAgg34 rfl))) ?_
    refine p_exact 1 _ (by kernel_rfl) rfl rfl (by kernel_rfl) rfl (ex_x rfl (fun w1 h1 => x_fieldAddr rfl Tryz.runUnderlying28 rfl Tryz.sizeOf3 (by decide))) ?_
    refine p_exact 2 _ (by kernel_rfl) rfl rfl (by kernel_rfl) rfl (ex_x rfl (fun w1 h1 => x_load rfl (ld_blk (hF.keep (S25.step h1).keep hnf) Tryz.isAgg3 rfl))) ?_
    refine p_exact 3 _ (by kernel_rfl) rfl rfl (by kernel_rfl) rfl (ex_x rfl (fun w1 h1 => x_mv rfl)) ?_
    refine p_exact 4 _ (by kernel_rfl) rfl rfl (by kernel_rfl) rfl (ex_x rfl (fun w1 h1 => x_mul rfl rfl (by have := div_bdp hf hpb; omega))) ?_
    refine p_exact 5 _ (by kernel_rfl) rfl rfl (by kernel_rfl) rfl (ex_x rfl (fun w1 h1 => x_fieldAddr rfl Tryz.runUnderlying28 rfl Tryz.sizeOf3 (by decide))) ?_
    refine p_exact 6 _ (by kernel_rfl) rfl rfl (by kernel_rfl) rfl (ex_x rfl (fun w1 h1 => x_load rfl (ld_blk (hF.keep (S25.step h1).keep hnf) Tryz.isAgg3 rfl))) ?_
    refine p_exact 7 _ (by kernel_rfl) rfl rfl (by kernel_rfl) rfl (ex_x rfl (fun w1 h1 => x_load rfl (ld_blk (hSm.keep (S25.step h1).keep hns) Tryz.isAgg3 rfl))) ?_
    refine p_exact 8 _ (by kernel_rfl) rfl rfl (by kernel_rfl) rfl (ex_x rfl (fun w1 h1 => x_mul rfl rfl (by have := div_bds hf hsb; omega))) ?_
    refine p_next [9] (by kernel_rfl) (by kernel_rfl) ⟨⟨_, _, rfl, rfl, ?_⟩, trivial⟩
    refine sp_callP [] [] [_, _] rfl rfl Tryz.call26 rfl ((c_norm (f.num * p) (f.den * sumI l) (div_bdp hf hpb) (div_bds hf hsb) _).mono (fun _ _ h => by rw [hk9] at h; cases h.2.1) fun _ _ h => show _ from ⟨h.1, _, (S25.step h.2.2).close⟩)
  obtain rfl : i = l.length := by omega
  refine r_exit rfl ?_
  refine p_end (rs := []) [] Tryz.func32 rfl trivial ?_
  exact ⟨div_good hg, _, by have h := S1.close; rw [← div_len (f := f), List.take_length] at h; exact h⟩

theorem blk_pos {w : World} {b : Nat} {P : Prop} [Decidable P] {x y : Int} {T : TypeId} (h : P) (hb : Blk w b [.int .i64 (if P then x else y)] T) : Blk w b [.int .i64 x] T := by rw [if_pos h] at hb; exact hb
theorem c_partedT (f : Fr) (l : List Int) (vp : Value) (hv : validF f = true) (w : World) (hL : Rd EI w vp l) : Cl Tryz.prog 27 #[vp, .bool (decide (0 ≤ f.num))] w fun v w' => v = .tuple #[.int .i64 (if prtE l (validF f && decide (0 ≤ f.num)) = 0 then sumI l else 0), .int .i64 (prtE l (validF f && decide (0 ≤ f.num)))] ∧ Le w w' := by
  have h := c_parted l vp (decide (0 ≤ f.num)) w hL
  rw [hv]; exact h
theorem c_partedF (f : Fr) (l : List Int) (vp : Value) (hv : validF f = false) (w : World) (hL : Rd EI w vp l) : Cl Tryz.prog 27 #[vp, .bool false] w fun v w' => v = .tuple #[.int .i64 (if prtE l (validF f && decide (0 ≤ f.num)) = 0 then sumI l else 0), .int .i64 (prtE l (validF f && decide (0 ≤ f.num)))] ∧ Le w w' := by
  have h := c_parted l vp false w hL
  rw [hv]; exact h

set_option maxHeartbeats 2000000 in
/-- couchant/share.Divide. -/
theorem c_Divide (f : Fr) (l : List Int) (vp : Value) (w : World) (hL : Rd EI w vp l) :
    Cl Tryz.prog 11 #[.agg (encF f).toArray, vp] w fun v w' => (∃ e, ¬ prtE l (validF f && decide (0 ≤ f.num)) = 0 ∧ v = .tuple #[.slice none 0 0, .int .i64 e] ∧ e ≠ 0 ∧ Le w w') ∨ (prtE l (validF f && decide (0 ≤ f.num)) = 0 ∧ (divL f l).all okF = false ∧ v = .tuple #[.slice none 0 0, .int .i64 2] ∧ Le w w') ∨ (prtE l (validF f && decide (0 ≤ f.num)) = 0 ∧ (divL f l).all okF = true ∧ ∃ vo, v = .tuple #[vo, .int .i64 0] ∧ New w w' (vec EF vo (divL f l)) ∧ Le w w') := by
  refine fn_of_run (args := [_, _]) 31 Tryz.func11 rfl rfl rfl fun cs => ?_
  have S := Own.start (X := nob) w
  refine r_seq ?_
  refine r_region ?_
  refine l_box S rfl rfl ?_
  intro b4 w1 S2 hl3
  refine l_box S2 rfl (Rd.cells (hL.le S2.le)) ?_
  intro b8 w5 S6 hl7
  refine l_x rfl (x_as rfl) ?_
  refine l_x rfl (x_as rfl) ?_
  refine l_nil ?_
  refine r_seq ?_
  refine r_drawE 15 (yng w5) Tryz.mixed (by kernel_rfl) ?_
  intro w9 hl10
  have S11 := S6.step hl10
  have hy12 : Keep (yng w5) w5 w9 := .of_le hl10
  refine e_exact 0 _ (by kernel_rfl) rfl rfl (by kernel_rfl) rfl (ex_x rfl (fun w1 h1 => x_load rfl (ld_blk ((S6.yng (hy12.trans h1)).blk 1 rfl) Tryz.isAgg23 rfl))) ?_
  refine e_exact 1 _ (by kernel_rfl) rfl rfl (by kernel_rfl) rfl (ex_x rfl (fun w1 h1 => x_load rfl (ld_blks ((S6.yng (hy12.trans h1)).blk 0 rfl) Tryz.isAgg28 Tryz.sizeOf28 rfl rfl))) ?_
  refine e_next [2, 13] (by kernel_rfl) (by kernel_rfl) ⟨⟨_, _, rfl, rfl, ?_⟩, ⟨_, _, rfl, rfl, ?_⟩, trivial⟩
  · skip
    refine s_buildSlice EF [f] (Own.start (X := nob) w9) rfl Tryz.runUnderlying34 Tryz.sizeOf28 Tryz.zeroValue28 rfl ⟨rfl, rfl, trivial⟩ (by decide) ?_
    intro v17 w13 S14 hl16
    have hn18 := S14.new 0 rfl
    have S15 := S11.add hl16 hn18
    refine ⟨.of_le hl16, ?_⟩
    have hyb19 : ∀ c, (vec EF v17 []).fp c → yng w5 c := fun c hc => Nat.le_trans hy12.size (hn18.bd c hc).1
    have hy20 : Keep (yng w5) w5 w13 := hy12.trans (Keep.of_le hl16)
    refine e_next [3, 13] (by kernel_rfl) (by kernel_rfl) ⟨⟨_, _, rfl, rfl, ?_⟩, ⟨_, _, rfl, rfl, ?_⟩, trivial⟩
    · skip
      refine s_callf [] [] [_] rfl rfl Tryz.call31 rfl ((c_valid _ [f] (by show 1 ≤ _; decide) _ (vec_rd (S15.at 2 rfl))).mono ?_)
      rintro _ w21 ⟨rfl, hl23⟩
      have S22 := S15.step hl23
      refine ⟨.of_le hl23, ?_⟩
      have hy24 : Keep (yng w5) w5 w21 := hy20.trans (Keep.of_le hl23)
      refine e_exact 4 _ (by kernel_rfl) rfl rfl (by kernel_rfl) rfl (ex_x rfl (fun w1 h1 => x_mv rfl)) ?_
      refine e_split (d := 14) rfl (fun hg14 => ?_) (fun hg14 => ?_)
      · skip
        refine e_exact 5 _ (by kernel_rfl) rfl rfl (by kernel_rfl) rfl (ex_x rfl (fun w1 h1 => x_fieldAddr rfl Tryz.runUnderlying28 rfl Tryz.sizeOf3 (by decide))) ?_
        refine e_exact 6 _ (by kernel_rfl) rfl rfl (by kernel_rfl) rfl (ex_x rfl (fun w1 h1 => x_load rfl (ld_blk ((S6.yng (hy24.trans h1)).blk 0 rfl) Tryz.isAgg3 rfl))) ?_
        refine e_exact 7 _ (by kernel_rfl) rfl rfl (by kernel_rfl) rfl (ex_x rfl (fun w1 h1 => x_geq rfl rfl)) ?_
        refine e_exact 8 _ (by kernel_rfl) rfl rfl (by kernel_rfl) rfl (ex_x rfl (fun w1 h1 => x_pick_t rfl rfl)) ?_
        refine e_next [9, 13] (by kernel_rfl) (by kernel_rfl) ⟨⟨_, _, rfl, rfl, ?_⟩, ⟨_, _, rfl, rfl, ?_⟩, trivial⟩
        · skip
          refine s_callf [] [] [_, _] rfl rfl Tryz.call27 rfl ((c_partedT f l _ (by simpa using hg14) _ (hL.le S22.le)).mono ?_)
          rintro _ w25 ⟨rfl, hl27⟩
          have S26 := S22.step hl27
          refine ⟨.of_le hl27, ?_⟩
          have hy28 : Keep (yng w5) w5 w25 := hy24.trans (Keep.of_le hl27)
          refine e_exact 10 _ (by kernel_rfl) rfl rfl (by kernel_rfl) rfl (ex_x rfl (fun w1 h1 => x_mv rfl)) ?_
          refine e_exact 11 _ (by kernel_rfl) rfl rfl (by kernel_rfl) rfl (ex_x rfl (fun w1 h1 => x_extract rfl rfl)) ?_
          refine e_exact 12 _ (by kernel_rfl) rfl rfl (by kernel_rfl) rfl (ex_x rfl (fun w1 h1 => x_extract rfl rfl)) ?_
          refine e_next [13] (by kernel_rfl) (by kernel_rfl) ⟨⟨_, _, rfl, rfl, ?_⟩, trivial⟩
          refine s_allocY S26 rfl Tryz.zeroValue3 rfl ?_
          intro b32 w29 S30 hl31 hb33
          refine ⟨.of_le hl31, ?_⟩
          have hy34 : Keep (yng w5) w5 w29 := hy28.trans (Keep.of_le hl31)
          refine e_next [14] (by kernel_rfl) (by kernel_rfl) ⟨⟨_, _, rfl, rfl, ?_⟩, trivial⟩
          refine s_stores (vs := [_]) S30 3 rfl rfl rfl rfl (ones_cons rfl ones_nil) Tryz.sizeOf3 (by first | exact Nat.le_refl _ | simp) (splice_all rfl) ?_
          intro w35 S36 hk37
          refine ⟨(yng_blk hy28 hb33 hk37), ?_⟩
          have hy38 : Keep (yng w5) w5 w35 := hy34.trans ((yng_blk hy28 hb33 hk37))
          refine e_done (by kernel_rfl) ?_
          refine l_x rfl (x_as rfl) ?_
          refine l_nil ?_
          refine r_seq ?_
          refine r_seq ?_
          refine r_region ?_
          refine l_x rfl (x_mv rfl) ?_
          refine l_x rfl (x_neq rfl rfl) ?_
          refine l_nil ?_
          refine r_ifd rfl (fun hc23 => ?_) (fun hc23 => ?_)
          · skip
            refine r_seq ?_
            refine r_region ?_
            refine l_x rfl (x_mv rfl) ?_
            refine l_x rfl (x_as rfl) ?_
            refine l_x rfl (x_as rfl) ?_
            refine l_nil ?_
            refine r_ret (rs := [.tmp 4, .tmp 5]) [_, _] Tryz.func11 rfl ⟨rfl, rfl, trivial⟩ ?_
            exact .inl ⟨_, hc23, rfl, hc23, S36.le⟩
          have h0 : prtE l (validF f && decide (0 ≤ f.num)) = 0 := Decidable.not_not.1 hc23
          obtain ⟨hl40, hl0, hft, hsp, hsb9⟩ := prt_ok h0
          rw [Bool.and_eq_true, decide_eq_true_eq] at hft
          have hf := hft.1
          have hsb : 0 < sumI l ∧ sumI l ≤ 40000 := ⟨hsp, hsb9⟩
          refine r_skip ?_
          refine r_seq ?_
          refine r_region ?_
          refine l_alloc S36 rfl Tryz.zeroValue34 rfl ?_
          intro b42 w39 S40 hl41
          refine l_nil ?_
          refine r_seq ?_
          have S43 := S40.nilvec (E := EF)
          have S44 := S43.pick (L' := [_, _, _, _, _]) [0, 1, 3, 4, 5] (by decide) rfl
          have S45 := Own.pack (A := [_, _, _]) (L := [_, _]) S44
          refine r_region ?_
          refine l_x rfl (x_func rfl rfl) ?_
          refine l_call [] [] [_] rfl rfl Tryz.call24 rfl (c_ranged (pack [blk b42 [.slice none 0 0] 34, vec EF (.slice none 0 0) []]) (fun r' => (divL f l).all okF = true ∧ ∃ vo, r' = pack [blk b42 [vo] 34, vec EF vo (divL f l)]) (fun _ => (divL f l).all okF = false) 32 [.pointer (some ⟨b8, 0, none⟩), .pointer (some ⟨b42, 0, none⟩), .pointer (some ⟨b4, 0, none⟩), .pointer (some ⟨b32, 0, none⟩)] _ Tryz.call32 (fun w1 S1 hk1 => (c_Divide1 f l vp b8 b42 b4 b32 w hL (by omega) hf hl0 hsb w1 (S45.under 3 rfl hk1).le (fun b hb => (S45.bd 3 _ rfl b hb).2.resolve_right id) ((S45.blk 1 rfl).keep hk1 (fun hq => S45.dj 1 3 _ _ rfl rfl (by decide) _ rfl hq)) ((S45.blk 0 rfl).keep hk1 (fun hq => S45.dj 0 3 _ _ rfl rfl (by decide) _ rfl hq)) (blk_pos h0 ((S45.blk 2 rfl).keep hk1 (fun hq => S45.dj 2 3 _ _ rfl rfl (by decide) _ rfl hq))) (fun hq => S45.dj 1 3 _ _ rfl rfl (by decide) _ rfl hq) (fun hq => S45.dj 0 3 _ _ rfl rfl (by decide) _ rfl hq) (fun hq => S45.dj 2 3 _ _ rfl rfl (by decide) _ rfl hq) S1).mono (fun _ _ ⟨h1, vo, h2⟩ => ⟨_, ⟨h1, vo, rfl⟩, h2⟩) fun _ _ ⟨h1, h2, r', h3⟩ => ⟨h1, r', h2, h3⟩) (S45.lend 3 rfl)) ?_
          rintro _ w46 (⟨rfl, r2646, ⟨hall9, vo9, rfl⟩, hb2646⟩ | ⟨rfl, r2646, hall9, hb2646⟩)
          · skip
            have S47 := Own.unpack (A := [_, _, _]) (L := [_, _]) (S45.back 3 rfl hb2646)
            refine l_x rfl (x_as rfl) ?_
            refine l_nil ?_
            refine r_seq ?_
            refine r_seq ?_
            refine r_region ?_
            refine l_x rfl (x_mv rfl) ?_
            refine l_x rfl (x_neq rfl rfl) ?_
            refine l_nil ?_
            refine r_ifd rfl (fun hc28 => ?_) (fun hc28 => ?_)
            · exact absurd rfl hc28
            refine r_skip ?_
            refine r_seq ?_
            refine r_region ?_
            refine l_x rfl (x_load rfl (ld_blk (S47.blk 3 rfl) Tryz.isAgg34 rfl)) ?_
            refine l_x rfl (x_as rfl) ?_
            refine l_x rfl (x_as rfl) ?_
            refine l_nil ?_
            refine r_ret (rs := [.tmp 4, .tmp 5]) [_, _] Tryz.func11 rfl ⟨rfl, rfl, trivial⟩ ?_
            exact .inr (.inr ⟨h0, hall9, _, rfl, S47.new 4 rfl, S47.le⟩)
          have S48 := S45.back 3 rfl hb2646
          refine l_x rfl (x_as rfl) ?_
          refine l_nil ?_
          refine r_seq ?_
          refine r_seq ?_
          refine r_region ?_
          refine l_x rfl (x_mv rfl) ?_
          refine l_x rfl (x_neq rfl rfl) ?_
          refine l_nil ?_
          refine r_ifd rfl (fun hc28 => ?_) (fun hc28 => ?_)
          · skip
            refine r_seq ?_
            refine r_region ?_
            refine l_x rfl (x_mv rfl) ?_
            refine l_x rfl (x_as rfl) ?_
            refine l_x rfl (x_as rfl) ?_
            refine l_nil ?_
            refine r_ret (rs := [.tmp 4, .tmp 5]) [_, _] Tryz.func11 rfl ⟨rfl, rfl, trivial⟩ ?_
            exact .inr (.inl ⟨h0, hall9, rfl, S48.le⟩)
          exact absurd hc28 (by decide)
        refine s_allocY S22 rfl Tryz.zeroValue3 rfl ?_
        intro b52 w49 S50 hl51 hb53
        refine ⟨.of_le hl51, ?_⟩
        have hy54 : Keep (yng w5) w5 w49 := hy24.trans (Keep.of_le hl51)
        refine e_next [9] (by kernel_rfl) (by kernel_rfl) ⟨⟨_, _, rfl, rfl, ?_⟩, trivial⟩
        refine s_callf [] [] [_, _] rfl rfl Tryz.call27 rfl ((c_partedT f l _ (by simpa using hg14) _ (hL.le S50.le)).mono ?_)
        rintro _ w55 ⟨rfl, hl57⟩
        have S56 := S50.step hl57
        refine ⟨.of_le hl57, ?_⟩
        have hy58 : Keep (yng w5) w5 w55 := hy54.trans (Keep.of_le hl57)
        refine e_exact 10 _ (by kernel_rfl) rfl rfl (by kernel_rfl) rfl (ex_x rfl (fun w1 h1 => x_mv rfl)) ?_
        refine e_exact 11 _ (by kernel_rfl) rfl rfl (by kernel_rfl) rfl (ex_x rfl (fun w1 h1 => x_extract rfl rfl)) ?_
        refine e_exact 12 _ (by kernel_rfl) rfl rfl (by kernel_rfl) rfl (ex_x rfl (fun w1 h1 => x_extract rfl rfl)) ?_
        refine e_next [14] (by kernel_rfl) (by kernel_rfl) ⟨⟨_, _, rfl, rfl, ?_⟩, trivial⟩
        refine s_stores (vs := [_]) S56 3 rfl rfl rfl rfl (ones_cons rfl ones_nil) Tryz.sizeOf3 (by first | exact Nat.le_refl _ | simp) (splice_all rfl) ?_
        intro w59 S60 hk61
        refine ⟨(yng_blk hy24 hb53 hk61), ?_⟩
        have hy62 : Keep (yng w5) w5 w59 := hy58.trans ((yng_blk hy24 hb53 hk61))
        refine e_done (by kernel_rfl) ?_
        refine l_x rfl (x_as rfl) ?_
        refine l_nil ?_
        refine r_seq ?_
        refine r_seq ?_
        refine r_region ?_
        refine l_x rfl (x_mv rfl) ?_
        refine l_x rfl (x_neq rfl rfl) ?_
        refine l_nil ?_
        refine r_ifd rfl (fun hc23 => ?_) (fun hc23 => ?_)
        · skip
          refine r_seq ?_
          refine r_region ?_
          refine l_x rfl (x_mv rfl) ?_
          refine l_x rfl (x_as rfl) ?_
          refine l_x rfl (x_as rfl) ?_
          refine l_nil ?_
          refine r_ret (rs := [.tmp 4, .tmp 5]) [_, _] Tryz.func11 rfl ⟨rfl, rfl, trivial⟩ ?_
          exact .inl ⟨_, hc23, rfl, hc23, S60.le⟩
        have h0 : prtE l (validF f && decide (0 ≤ f.num)) = 0 := Decidable.not_not.1 hc23
        obtain ⟨hl40, hl0, hft, hsp, hsb9⟩ := prt_ok h0
        rw [Bool.and_eq_true, decide_eq_true_eq] at hft
        have hf := hft.1
        have hsb : 0 < sumI l ∧ sumI l ≤ 40000 := ⟨hsp, hsb9⟩
        refine r_skip ?_
        refine r_seq ?_
        refine r_region ?_
        refine l_alloc S60 rfl Tryz.zeroValue34 rfl ?_
        intro b66 w63 S64 hl65
        refine l_nil ?_
        refine r_seq ?_
        have S67 := S64.nilvec (E := EF)
        have S68 := S67.pick (L' := [_, _, _, _, _]) [0, 1, 3, 4, 5] (by decide) rfl
        have S69 := Own.pack (A := [_, _, _]) (L := [_, _]) S68
        refine r_region ?_
        refine l_x rfl (x_func rfl rfl) ?_
        refine l_call [] [] [_] rfl rfl Tryz.call24 rfl (c_ranged (pack [blk b66 [.slice none 0 0] 34, vec EF (.slice none 0 0) []]) (fun r' => (divL f l).all okF = true ∧ ∃ vo, r' = pack [blk b66 [vo] 34, vec EF vo (divL f l)]) (fun _ => (divL f l).all okF = false) 32 [.pointer (some ⟨b8, 0, none⟩), .pointer (some ⟨b66, 0, none⟩), .pointer (some ⟨b4, 0, none⟩), .pointer (some ⟨b52, 0, none⟩)] _ Tryz.call32 (fun w1 S1 hk1 => (c_Divide1 f l vp b8 b66 b4 b52 w hL (by omega) hf hl0 hsb w1 (S69.under 3 rfl hk1).le (fun b hb => (S69.bd 3 _ rfl b hb).2.resolve_right id) ((S69.blk 1 rfl).keep hk1 (fun hq => S69.dj 1 3 _ _ rfl rfl (by decide) _ rfl hq)) ((S69.blk 0 rfl).keep hk1 (fun hq => S69.dj 0 3 _ _ rfl rfl (by decide) _ rfl hq)) (blk_pos h0 ((S69.blk 2 rfl).keep hk1 (fun hq => S69.dj 2 3 _ _ rfl rfl (by decide) _ rfl hq))) (fun hq => S69.dj 1 3 _ _ rfl rfl (by decide) _ rfl hq) (fun hq => S69.dj 0 3 _ _ rfl rfl (by decide) _ rfl hq) (fun hq => S69.dj 2 3 _ _ rfl rfl (by decide) _ rfl hq) S1).mono (fun _ _ ⟨h1, vo, h2⟩ => ⟨_, ⟨h1, vo, rfl⟩, h2⟩) fun _ _ ⟨h1, h2, r', h3⟩ => ⟨h1, r', h2, h3⟩) (S69.lend 3 rfl)) ?_
        rintro _ w70 (⟨rfl, r2670, ⟨hall9, vo9, rfl⟩, hb2670⟩ | ⟨rfl, r2670, hall9, hb2670⟩)
        · skip
          have S71 := Own.unpack (A := [_, _, _]) (L := [_, _]) (S69.back 3 rfl hb2670)
          refine l_x rfl (x_as rfl) ?_
          refine l_nil ?_
          refine r_seq ?_
          refine r_seq ?_
          refine r_region ?_
          refine l_x rfl (x_mv rfl) ?_
          refine l_x rfl (x_neq rfl rfl) ?_
          refine l_nil ?_
          refine r_ifd rfl (fun hc28 => ?_) (fun hc28 => ?_)
          · exact absurd rfl hc28
          refine r_skip ?_
          refine r_seq ?_
          refine r_region ?_
          refine l_x rfl (x_load rfl (ld_blk (S71.blk 3 rfl) Tryz.isAgg34 rfl)) ?_
          refine l_x rfl (x_as rfl) ?_
          refine l_x rfl (x_as rfl) ?_
          refine l_nil ?_
          refine r_ret (rs := [.tmp 4, .tmp 5]) [_, _] Tryz.func11 rfl ⟨rfl, rfl, trivial⟩ ?_
          exact .inr (.inr ⟨h0, hall9, _, rfl, S71.new 4 rfl, S71.le⟩)
        have S72 := S69.back 3 rfl hb2670
        refine l_x rfl (x_as rfl) ?_
        refine l_nil ?_
        refine r_seq ?_
        refine r_seq ?_
        refine r_region ?_
        refine l_x rfl (x_mv rfl) ?_
        refine l_x rfl (x_neq rfl rfl) ?_
        refine l_nil ?_
        refine r_ifd rfl (fun hc28 => ?_) (fun hc28 => ?_)
        · skip
          refine r_seq ?_
          refine r_region ?_
          refine l_x rfl (x_mv rfl) ?_
          refine l_x rfl (x_as rfl) ?_
          refine l_x rfl (x_as rfl) ?_
          refine l_nil ?_
          refine r_ret (rs := [.tmp 4, .tmp 5]) [_, _] Tryz.func11 rfl ⟨rfl, rfl, trivial⟩ ?_
          exact .inr (.inl ⟨h0, hall9, rfl, S72.le⟩)
        exact absurd hc28 (by decide)
      refine e_exact 5 _ (by kernel_rfl) rfl rfl (by kernel_rfl) rfl (ex_pass rfl) ?_
      refine e_exact 6 _ (by kernel_rfl) rfl rfl (by kernel_rfl) rfl (ex_pass rfl) ?_
      refine e_exact 7 _ (by kernel_rfl) rfl rfl (by kernel_rfl) rfl (ex_pass rfl) ?_
      refine e_exact 8 _ (by kernel_rfl) rfl rfl (by kernel_rfl) rfl (ex_x rfl (fun w1 h1 => x_pick_f rfl rfl)) ?_
      refine e_next [9, 13] (by kernel_rfl) (by kernel_rfl) ⟨⟨_, _, rfl, rfl, ?_⟩, ⟨_, _, rfl, rfl, ?_⟩, trivial⟩
      · skip
        refine s_callf [] [] [_, _] rfl rfl Tryz.call27 rfl ((c_partedF f l _ (by simpa using hg14) _ (hL.le S22.le)).mono ?_)
        rintro _ w73 ⟨rfl, hl75⟩
        have S74 := S22.step hl75
        refine ⟨.of_le hl75, ?_⟩
        have hy76 : Keep (yng w5) w5 w73 := hy24.trans (Keep.of_le hl75)
        refine e_exact 10 _ (by kernel_rfl) rfl rfl (by kernel_rfl) rfl (ex_x rfl (fun w1 h1 => x_mv rfl)) ?_
        refine e_exact 11 _ (by kernel_rfl) rfl rfl (by kernel_rfl) rfl (ex_x rfl (fun w1 h1 => x_extract rfl rfl)) ?_
        refine e_exact 12 _ (by kernel_rfl) rfl rfl (by kernel_rfl) rfl (ex_x rfl (fun w1 h1 => x_extract rfl rfl)) ?_
        refine e_next [13] (by kernel_rfl) (by kernel_rfl) ⟨⟨_, _, rfl, rfl, ?_⟩, trivial⟩
        refine s_allocY S74 rfl Tryz.zeroValue3 rfl ?_
        intro b80 w77 S78 hl79 hb81
        refine ⟨.of_le hl79, ?_⟩
        have hy82 : Keep (yng w5) w5 w77 := hy76.trans (Keep.of_le hl79)
        refine e_next [14] (by kernel_rfl) (by kernel_rfl) ⟨⟨_, _, rfl, rfl, ?_⟩, trivial⟩
        refine s_stores (vs := [_]) S78 3 rfl rfl rfl rfl (ones_cons rfl ones_nil) Tryz.sizeOf3 (by first | exact Nat.le_refl _ | simp) (splice_all rfl) ?_
        intro w83 S84 hk85
        refine ⟨(yng_blk hy76 hb81 hk85), ?_⟩
        have hy86 : Keep (yng w5) w5 w83 := hy82.trans ((yng_blk hy76 hb81 hk85))
        refine e_done (by kernel_rfl) ?_
        refine l_x rfl (x_as rfl) ?_
        refine l_nil ?_
        refine r_seq ?_
        refine r_seq ?_
        refine r_region ?_
        refine l_x rfl (x_mv rfl) ?_
        refine l_x rfl (x_neq rfl rfl) ?_
        refine l_nil ?_
        refine r_ifd rfl (fun hc23 => ?_) (fun hc23 => ?_)
        · skip
          refine r_seq ?_
          refine r_region ?_
          refine l_x rfl (x_mv rfl) ?_
          refine l_x rfl (x_as rfl) ?_
          refine l_x rfl (x_as rfl) ?_
          refine l_nil ?_
          refine r_ret (rs := [.tmp 4, .tmp 5]) [_, _] Tryz.func11 rfl ⟨rfl, rfl, trivial⟩ ?_
          exact .inl ⟨_, hc23, rfl, hc23, S84.le⟩
        have h0 : prtE l (validF f && decide (0 ≤ f.num)) = 0 := Decidable.not_not.1 hc23
        obtain ⟨hl40, hl0, hft, hsp, hsb9⟩ := prt_ok h0
        rw [Bool.and_eq_true, decide_eq_true_eq] at hft
        have hf := hft.1
        have hsb : 0 < sumI l ∧ sumI l ≤ 40000 := ⟨hsp, hsb9⟩
        refine r_skip ?_
        refine r_seq ?_
        refine r_region ?_
        refine l_alloc S84 rfl Tryz.zeroValue34 rfl ?_
        intro b90 w87 S88 hl89
        refine l_nil ?_
        refine r_seq ?_
        have S91 := S88.nilvec (E := EF)
        have S92 := S91.pick (L' := [_, _, _, _, _]) [0, 1, 3, 4, 5] (by decide) rfl
        have S93 := Own.pack (A := [_, _, _]) (L := [_, _]) S92
        refine r_region ?_
        refine l_x rfl (x_func rfl rfl) ?_
        refine l_call [] [] [_] rfl rfl Tryz.call24 rfl (c_ranged (pack [blk b90 [.slice none 0 0] 34, vec EF (.slice none 0 0) []]) (fun r' => (divL f l).all okF = true ∧ ∃ vo, r' = pack [blk b90 [vo] 34, vec EF vo (divL f l)]) (fun _ => (divL f l).all okF = false) 32 [.pointer (some ⟨b8, 0, none⟩), .pointer (some ⟨b90, 0, none⟩), .pointer (some ⟨b4, 0, none⟩), .pointer (some ⟨b80, 0, none⟩)] _ Tryz.call32 (fun w1 S1 hk1 => (c_Divide1 f l vp b8 b90 b4 b80 w hL (by omega) hf hl0 hsb w1 (S93.under 3 rfl hk1).le (fun b hb => (S93.bd 3 _ rfl b hb).2.resolve_right id) ((S93.blk 1 rfl).keep hk1 (fun hq => S93.dj 1 3 _ _ rfl rfl (by decide) _ rfl hq)) ((S93.blk 0 rfl).keep hk1 (fun hq => S93.dj 0 3 _ _ rfl rfl (by decide) _ rfl hq)) (blk_pos h0 ((S93.blk 2 rfl).keep hk1 (fun hq => S93.dj 2 3 _ _ rfl rfl (by decide) _ rfl hq))) (fun hq => S93.dj 1 3 _ _ rfl rfl (by decide) _ rfl hq) (fun hq => S93.dj 0 3 _ _ rfl rfl (by decide) _ rfl hq) (fun hq => S93.dj 2 3 _ _ rfl rfl (by decide) _ rfl hq) S1).mono (fun _ _ ⟨h1, vo, h2⟩ => ⟨_, ⟨h1, vo, rfl⟩, h2⟩) fun _ _ ⟨h1, h2, r', h3⟩ => ⟨h1, r', h2, h3⟩) (S93.lend 3 rfl)) ?_
        rintro _ w94 (⟨rfl, r2694, ⟨hall9, vo9, rfl⟩, hb2694⟩ | ⟨rfl, r2694, hall9, hb2694⟩)
        · skip
          have S95 := Own.unpack (A := [_, _, _]) (L := [_, _]) (S93.back 3 rfl hb2694)
          refine l_x rfl (x_as rfl) ?_
          refine l_nil ?_
          refine r_seq ?_
          refine r_seq ?_
          refine r_region ?_
          refine l_x rfl (x_mv rfl) ?_
          refine l_x rfl (x_neq rfl rfl) ?_
          refine l_nil ?_
          refine r_ifd rfl (fun hc28 => ?_) (fun hc28 => ?_)
          · exact absurd rfl hc28
          refine r_skip ?_
          refine r_seq ?_
          refine r_region ?_
          refine l_x rfl (x_load rfl (ld_blk (S95.blk 3 rfl) Tryz.isAgg34 rfl)) ?_
          refine l_x rfl (x_as rfl) ?_
          refine l_x rfl (x_as rfl) ?_
          refine l_nil ?_
          refine r_ret (rs := [.tmp 4, .tmp 5]) [_, _] Tryz.func11 rfl ⟨rfl, rfl, trivial⟩ ?_
          exact .inr (.inr ⟨h0, hall9, _, rfl, S95.new 4 rfl, S95.le⟩)
        have S96 := S93.back 3 rfl hb2694
        refine l_x rfl (x_as rfl) ?_
        refine l_nil ?_
        refine r_seq ?_
        refine r_seq ?_
        refine r_region ?_
        refine l_x rfl (x_mv rfl) ?_
        refine l_x rfl (x_neq rfl rfl) ?_
        refine l_nil ?_
        refine r_ifd rfl (fun hc28 => ?_) (fun hc28 => ?_)
        · skip
          refine r_seq ?_
          refine r_region ?_
          refine l_x rfl (x_mv rfl) ?_
          refine l_x rfl (x_as rfl) ?_
          refine l_x rfl (x_as rfl) ?_
          refine l_nil ?_
          refine r_ret (rs := [.tmp 4, .tmp 5]) [_, _] Tryz.func11 rfl ⟨rfl, rfl, trivial⟩ ?_
          exact .inr (.inl ⟨h0, hall9, rfl, S96.le⟩)
        exact absurd hc28 (by decide)
      refine s_allocY S22 rfl Tryz.zeroValue3 rfl ?_
      intro b100 w97 S98 hl99 hb101
      refine ⟨.of_le hl99, ?_⟩
      have hy102 : Keep (yng w5) w5 w97 := hy24.trans (Keep.of_le hl99)
      refine e_next [9] (by kernel_rfl) (by kernel_rfl) ⟨⟨_, _, rfl, rfl, ?_⟩, trivial⟩
      refine s_callf [] [] [_, _] rfl rfl Tryz.call27 rfl ((c_partedF f l _ (by simpa using hg14) _ (hL.le S98.le)).mono ?_)
      rintro _ w103 ⟨rfl, hl105⟩
      have S104 := S98.step hl105
      refine ⟨.of_le hl105, ?_⟩
      have hy106 : Keep (yng w5) w5 w103 := hy102.trans (Keep.of_le hl105)
      refine e_exact 10 _ (by kernel_rfl) rfl rfl (by kernel_rfl) rfl (ex_x rfl (fun w1 h1 => x_mv rfl)) ?_
      refine e_exact 11 _ (by kernel_rfl) rfl rfl (by kernel_rfl) rfl (ex_x rfl (fun w1 h1 => x_extract rfl rfl)) ?_
      refine e_exact 12 _ (by kernel_rfl) rfl rfl (by kernel_rfl) rfl (ex_x rfl (fun w1 h1 => x_extract rfl rfl)) ?_
      refine e_next [14] (by kernel_rfl) (by kernel_rfl) ⟨⟨_, _, rfl, rfl, ?_⟩, trivial⟩
      refine s_stores (vs := [_]) S104 3 rfl rfl rfl rfl (ones_cons rfl ones_nil) Tryz.sizeOf3 (by first | exact Nat.le_refl _ | simp) (splice_all rfl) ?_
      intro w107 S108 hk109
      refine ⟨(yng_blk hy24 hb101 hk109), ?_⟩
      have hy110 : Keep (yng w5) w5 w107 := hy106.trans ((yng_blk hy24 hb101 hk109))
      refine e_done (by kernel_rfl) ?_
      refine l_x rfl (x_as rfl) ?_
      refine l_nil ?_
      refine r_seq ?_
      refine r_seq ?_
      refine r_region ?_
      refine l_x rfl (x_mv rfl) ?_
      refine l_x rfl (x_neq rfl rfl) ?_
      refine l_nil ?_
      refine r_ifd rfl (fun hc23 => ?_) (fun hc23 => ?_)
      · skip
        refine r_seq ?_
        refine r_region ?_
        refine l_x rfl (x_mv rfl) ?_
        refine l_x rfl (x_as rfl) ?_
        refine l_x rfl (x_as rfl) ?_
        refine l_nil ?_
        refine r_ret (rs := [.tmp 4, .tmp 5]) [_, _] Tryz.func11 rfl ⟨rfl, rfl, trivial⟩ ?_
        exact .inl ⟨_, hc23, rfl, hc23, S108.le⟩
      have h0 : prtE l (validF f && decide (0 ≤ f.num)) = 0 := Decidable.not_not.1 hc23
      obtain ⟨hl40, hl0, hft, hsp, hsb9⟩ := prt_ok h0
      rw [Bool.and_eq_true, decide_eq_true_eq] at hft
      have hf := hft.1
      have hsb : 0 < sumI l ∧ sumI l ≤ 40000 := ⟨hsp, hsb9⟩
      refine r_skip ?_
      refine r_seq ?_
      refine r_region ?_
      refine l_alloc S108 rfl Tryz.zeroValue34 rfl ?_
      intro b114 w111 S112 hl113
      refine l_nil ?_
      refine r_seq ?_
      have S115 := S112.nilvec (E := EF)
      have S116 := S115.pick (L' := [_, _, _, _, _]) [0, 1, 3, 4, 5] (by decide) rfl
      have S117 := Own.pack (A := [_, _, _]) (L := [_, _]) S116
      refine r_region ?_
      refine l_x rfl (x_func rfl rfl) ?_
      refine l_call [] [] [_] rfl rfl Tryz.call24 rfl (c_ranged (pack [blk b114 [.slice none 0 0] 34, vec EF (.slice none 0 0) []]) (fun r' => (divL f l).all okF = true ∧ ∃ vo, r' = pack [blk b114 [vo] 34, vec EF vo (divL f l)]) (fun _ => (divL f l).all okF = false) 32 [.pointer (some ⟨b8, 0, none⟩), .pointer (some ⟨b114, 0, none⟩), .pointer (some ⟨b4, 0, none⟩), .pointer (some ⟨b100, 0, none⟩)] _ Tryz.call32 (fun w1 S1 hk1 => (c_Divide1 f l vp b8 b114 b4 b100 w hL (by omega) hf hl0 hsb w1 (S117.under 3 rfl hk1).le (fun b hb => (S117.bd 3 _ rfl b hb).2.resolve_right id) ((S117.blk 1 rfl).keep hk1 (fun hq => S117.dj 1 3 _ _ rfl rfl (by decide) _ rfl hq)) ((S117.blk 0 rfl).keep hk1 (fun hq => S117.dj 0 3 _ _ rfl rfl (by decide) _ rfl hq)) (blk_pos h0 ((S117.blk 2 rfl).keep hk1 (fun hq => S117.dj 2 3 _ _ rfl rfl (by decide) _ rfl hq))) (fun hq => S117.dj 1 3 _ _ rfl rfl (by decide) _ rfl hq) (fun hq => S117.dj 0 3 _ _ rfl rfl (by decide) _ rfl hq) (fun hq => S117.dj 2 3 _ _ rfl rfl (by decide) _ rfl hq) S1).mono (fun _ _ ⟨h1, vo, h2⟩ => ⟨_, ⟨h1, vo, rfl⟩, h2⟩) fun _ _ ⟨h1, h2, r', h3⟩ => ⟨h1, r', h2, h3⟩) (S117.lend 3 rfl)) ?_
      rintro _ w118 (⟨rfl, r26118, ⟨hall9, vo9, rfl⟩, hb26118⟩ | ⟨rfl, r26118, hall9, hb26118⟩)
      · skip
        have S119 := Own.unpack (A := [_, _, _]) (L := [_, _]) (S117.back 3 rfl hb26118)
        refine l_x rfl (x_as rfl) ?_
        refine l_nil ?_
        refine r_seq ?_
        refine r_seq ?_
        refine r_region ?_
        refine l_x rfl (x_mv rfl) ?_
        refine l_x rfl (x_neq rfl rfl) ?_
        refine l_nil ?_
        refine r_ifd rfl (fun hc28 => ?_) (fun hc28 => ?_)
        · exact absurd rfl hc28
        refine r_skip ?_
        refine r_seq ?_
        refine r_region ?_
        refine l_x rfl (x_load rfl (ld_blk (S119.blk 3 rfl) Tryz.isAgg34 rfl)) ?_
        refine l_x rfl (x_as rfl) ?_
        refine l_x rfl (x_as rfl) ?_
        refine l_nil ?_
        refine r_ret (rs := [.tmp 4, .tmp 5]) [_, _] Tryz.func11 rfl ⟨rfl, rfl, trivial⟩ ?_
        exact .inr (.inr ⟨h0, hall9, _, rfl, S119.new 4 rfl, S119.le⟩)
      have S120 := S117.back 3 rfl hb26118
      refine l_x rfl (x_as rfl) ?_
      refine l_nil ?_
      refine r_seq ?_
      refine r_seq ?_
      refine r_region ?_
      refine l_x rfl (x_mv rfl) ?_
      refine l_x rfl (x_neq rfl rfl) ?_
      refine l_nil ?_
      refine r_ifd rfl (fun hc28 => ?_) (fun hc28 => ?_)
      · skip
        refine r_seq ?_
        refine r_region ?_
        refine l_x rfl (x_mv rfl) ?_
        refine l_x rfl (x_as rfl) ?_
        refine l_x rfl (x_as rfl) ?_
        refine l_nil ?_
        refine r_ret (rs := [.tmp 4, .tmp 5]) [_, _] Tryz.func11 rfl ⟨rfl, rfl, trivial⟩ ?_
        exact .inr (.inl ⟨h0, hall9, rfl, S120.le⟩)
      exact absurd hc28 (by decide)
    refine s_allocY S15 rfl Tryz.zeroValue3 rfl ?_
    intro b124 w121 S122 hl123 hb125
    refine ⟨.of_le hl123, ?_⟩
    have hy126 : Keep (yng w5) w5 w121 := hy20.trans (Keep.of_le hl123)
    refine e_next [3] (by kernel_rfl) (by kernel_rfl) ⟨⟨_, _, rfl, rfl, ?_⟩, trivial⟩
    refine s_callf [] [] [_] rfl rfl Tryz.call31 rfl ((c_valid _ [f] (by show 1 ≤ _; decide) _ (vec_rd (S122.at 2 rfl))).mono ?_)
    rintro _ w127 ⟨rfl, hl129⟩
    have S128 := S122.step hl129
    refine ⟨.of_le hl129, ?_⟩
    have hy130 : Keep (yng w5) w5 w127 := hy126.trans (Keep.of_le hl129)
    refine e_exact 4 _ (by kernel_rfl) rfl rfl (by kernel_rfl) rfl (ex_x rfl (fun w1 h1 => x_mv rfl)) ?_
    refine e_split (d := 14) rfl (fun hg14 => ?_) (fun hg14 => ?_)
    · skip
      refine e_exact 5 _ (by kernel_rfl) rfl rfl (by kernel_rfl) rfl (ex_x rfl (fun w1 h1 => x_fieldAddr rfl Tryz.runUnderlying28 rfl Tryz.sizeOf3 (by decide))) ?_
      refine e_exact 6 _ (by kernel_rfl) rfl rfl (by kernel_rfl) rfl (ex_x rfl (fun w1 h1 => x_load rfl (ld_blk ((S6.yng (hy130.trans h1)).blk 0 rfl) Tryz.isAgg3 rfl))) ?_
      refine e_exact 7 _ (by kernel_rfl) rfl rfl (by kernel_rfl) rfl (ex_x rfl (fun w1 h1 => x_geq rfl rfl)) ?_
      refine e_exact 8 _ (by kernel_rfl) rfl rfl (by kernel_rfl) rfl (ex_x rfl (fun w1 h1 => x_pick_t rfl rfl)) ?_
      refine e_next [9] (by kernel_rfl) (by kernel_rfl) ⟨⟨_, _, rfl, rfl, ?_⟩, trivial⟩
      refine s_callf [] [] [_, _] rfl rfl Tryz.call27 rfl ((c_partedT f l _ (by simpa using hg14) _ (hL.le S128.le)).mono ?_)
      rintro _ w131 ⟨rfl, hl133⟩
      have S132 := S128.step hl133
      refine ⟨.of_le hl133, ?_⟩
      have hy134 : Keep (yng w5) w5 w131 := hy130.trans (Keep.of_le hl133)
      refine e_exact 10 _ (by kernel_rfl) rfl rfl (by kernel_rfl) rfl (ex_x rfl (fun w1 h1 => x_mv rfl)) ?_
      refine e_exact 11 _ (by kernel_rfl) rfl rfl (by kernel_rfl) rfl (ex_x rfl (fun w1 h1 => x_extract rfl rfl)) ?_
      refine e_exact 12 _ (by kernel_rfl) rfl rfl (by kernel_rfl) rfl (ex_x rfl (fun w1 h1 => x_extract rfl rfl)) ?_
      refine e_next [14] (by kernel_rfl) (by kernel_rfl) ⟨⟨_, _, rfl, rfl, ?_⟩, trivial⟩
      refine s_stores (vs := [_]) S132 3 rfl rfl rfl rfl (ones_cons rfl ones_nil) Tryz.sizeOf3 (by first | exact Nat.le_refl _ | simp) (splice_all rfl) ?_
      intro w135 S136 hk137
      refine ⟨(yng_blk hy20 hb125 hk137), ?_⟩
      have hy138 : Keep (yng w5) w5 w135 := hy134.trans ((yng_blk hy20 hb125 hk137))
      refine e_done (by kernel_rfl) ?_
      refine l_x rfl (x_as rfl) ?_
      refine l_nil ?_
      refine r_seq ?_
      refine r_seq ?_
      refine r_region ?_
      refine l_x rfl (x_mv rfl) ?_
      refine l_x rfl (x_neq rfl rfl) ?_
      refine l_nil ?_
      refine r_ifd rfl (fun hc23 => ?_) (fun hc23 => ?_)
      · skip
        refine r_seq ?_
        refine r_region ?_
        refine l_x rfl (x_mv rfl) ?_
        refine l_x rfl (x_as rfl) ?_
        refine l_x rfl (x_as rfl) ?_
        refine l_nil ?_
        refine r_ret (rs := [.tmp 4, .tmp 5]) [_, _] Tryz.func11 rfl ⟨rfl, rfl, trivial⟩ ?_
        exact .inl ⟨_, hc23, rfl, hc23, S136.le⟩
      have h0 : prtE l (validF f && decide (0 ≤ f.num)) = 0 := Decidable.not_not.1 hc23
      obtain ⟨hl40, hl0, hft, hsp, hsb9⟩ := prt_ok h0
      rw [Bool.and_eq_true, decide_eq_true_eq] at hft
      have hf := hft.1
      have hsb : 0 < sumI l ∧ sumI l ≤ 40000 := ⟨hsp, hsb9⟩
      refine r_skip ?_
      refine r_seq ?_
      refine r_region ?_
      refine l_alloc S136 rfl Tryz.zeroValue34 rfl ?_
      intro b142 w139 S140 hl141
      refine l_nil ?_
      refine r_seq ?_
      have S143 := S140.nilvec (E := EF)
      have S144 := S143.pick (L' := [_, _, _, _, _]) [0, 1, 3, 4, 5] (by decide) rfl
      have S145 := Own.pack (A := [_, _, _]) (L := [_, _]) S144
      refine r_region ?_
      refine l_x rfl (x_func rfl rfl) ?_
      refine l_call [] [] [_] rfl rfl Tryz.call24 rfl (c_ranged (pack [blk b142 [.slice none 0 0] 34, vec EF (.slice none 0 0) []]) (fun r' => (divL f l).all okF = true ∧ ∃ vo, r' = pack [blk b142 [vo] 34, vec EF vo (divL f l)]) (fun _ => (divL f l).all okF = false) 32 [.pointer (some ⟨b8, 0, none⟩), .pointer (some ⟨b142, 0, none⟩), .pointer (some ⟨b4, 0, none⟩), .pointer (some ⟨b124, 0, none⟩)] _ Tryz.call32 (fun w1 S1 hk1 => (c_Divide1 f l vp b8 b142 b4 b124 w hL (by omega) hf hl0 hsb w1 (S145.under 3 rfl hk1).le (fun b hb => (S145.bd 3 _ rfl b hb).2.resolve_right id) ((S145.blk 1 rfl).keep hk1 (fun hq => S145.dj 1 3 _ _ rfl rfl (by decide) _ rfl hq)) ((S145.blk 0 rfl).keep hk1 (fun hq => S145.dj 0 3 _ _ rfl rfl (by decide) _ rfl hq)) (blk_pos h0 ((S145.blk 2 rfl).keep hk1 (fun hq => S145.dj 2 3 _ _ rfl rfl (by decide) _ rfl hq))) (fun hq => S145.dj 1 3 _ _ rfl rfl (by decide) _ rfl hq) (fun hq => S145.dj 0 3 _ _ rfl rfl (by decide) _ rfl hq) (fun hq => S145.dj 2 3 _ _ rfl rfl (by decide) _ rfl hq) S1).mono (fun _ _ ⟨h1, vo, h2⟩ => ⟨_, ⟨h1, vo, rfl⟩, h2⟩) fun _ _ ⟨h1, h2, r', h3⟩ => ⟨h1, r', h2, h3⟩) (S145.lend 3 rfl)) ?_
      rintro _ w146 (⟨rfl, r26146, ⟨hall9, vo9, rfl⟩, hb26146⟩ | ⟨rfl, r26146, hall9, hb26146⟩)
      · skip
        have S147 := Own.unpack (A := [_, _, _]) (L := [_, _]) (S145.back 3 rfl hb26146)
        refine l_x rfl (x_as rfl) ?_
        refine l_nil ?_
        refine r_seq ?_
        refine r_seq ?_
        refine r_region ?_
        refine l_x rfl (x_mv rfl) ?_
        refine l_x rfl (x_neq rfl rfl) ?_
        refine l_nil ?_
        refine r_ifd rfl (fun hc28 => ?_) (fun hc28 => ?_)
        · exact absurd rfl hc28
        refine r_skip ?_
        refine r_seq ?_
        refine r_region ?_
        refine l_x rfl (x_load rfl (ld_blk (S147.blk 3 rfl) Tryz.isAgg34 rfl)) ?_
        refine l_x rfl (x_as rfl) ?_
        refine l_x rfl (x_as rfl) ?_
        refine l_nil ?_
        refine r_ret (rs := [.tmp 4, .tmp 5]) [_, _] Tryz.func11 rfl ⟨rfl, rfl, trivial⟩ ?_
        exact .inr (.inr ⟨h0, hall9, _, rfl, S147.new 4 rfl, S147.le⟩)
      have S148 := S145.back 3 rfl hb26146
      refine l_x rfl (x_as rfl) ?_
      refine l_nil ?_
      refine r_seq ?_
      refine r_seq ?_
      refine r_region ?_
      refine l_x rfl (x_mv rfl) ?_
      refine l_x rfl (x_neq rfl rfl) ?_
      refine l_nil ?_
      refine r_ifd rfl (fun hc28 => ?_) (fun hc28 => ?_)
      · skip
        refine r_seq ?_
        refine r_region ?_
        refine l_x rfl (x_mv rfl) ?_
        refine l_x rfl (x_as rfl) ?_
        refine l_x rfl (x_as rfl) ?_
        refine l_nil ?_
        refine r_ret (rs := [.tmp 4, .tmp 5]) [_, _] Tryz.func11 rfl ⟨rfl, rfl, trivial⟩ ?_
        exact .inr (.inl ⟨h0, hall9, rfl, S148.le⟩)
      exact absurd hc28 (by decide)
    refine e_exact 5 _ (by kernel_rfl) rfl rfl (by kernel_rfl) rfl (ex_pass rfl) ?_
    refine e_exact 6 _ (by kernel_rfl) rfl rfl (by kernel_rfl) rfl (ex_pass rfl) ?_
    refine e_exact 7 _ (by kernel_rfl) rfl rfl (by kernel_rfl) rfl (ex_pass rfl) ?_
    refine e_exact 8 _ (by kernel_rfl) rfl rfl (by kernel_rfl) rfl (ex_x rfl (fun w1 h1 => x_pick_f rfl rfl)) ?_
    refine e_next [9] (by kernel_rfl) (by kernel_rfl) ⟨⟨_, _, rfl, rfl, ?_⟩, trivial⟩
    refine s_callf [] [] [_, _] rfl rfl Tryz.call27 rfl ((c_partedF f l _ (by simpa using hg14) _ (hL.le S128.le)).mono ?_)
    rintro _ w149 ⟨rfl, hl151⟩
    have S150 := S128.step hl151
    refine ⟨.of_le hl151, ?_⟩
    have hy152 : Keep (yng w5) w5 w149 := hy130.trans (Keep.of_le hl151)
    refine e_exact 10 _ (by kernel_rfl) rfl rfl (by kernel_rfl) rfl (ex_x rfl (fun w1 h1 => x_mv rfl)) ?_
    refine e_exact 11 _ (by kernel_rfl) rfl rfl (by kernel_rfl) rfl (ex_x rfl (fun w1 h1 => x_extract rfl rfl)) ?_
    refine e_exact 12 _ (by kernel_rfl) rfl rfl (by kernel_rfl) rfl (ex_x rfl (fun w1 h1 => x_extract rfl rfl)) ?_
    refine e_next [14] (by kernel_rfl) (by kernel_rfl) ⟨⟨_, _, rfl, rfl, ?_⟩, trivial⟩
    refine s_stores (vs := [_]) S150 3 rfl rfl rfl rfl (ones_cons rfl ones_nil) Tryz.sizeOf3 (by first | exact Nat.le_refl _ | simp) (splice_all rfl) ?_
    intro w153 S154 hk155
    refine ⟨(yng_blk hy20 hb125 hk155), ?_⟩
    have hy156 : Keep (yng w5) w5 w153 := hy152.trans ((yng_blk hy20 hb125 hk155))
    refine e_done (by kernel_rfl) ?_
    refine l_x rfl (x_as rfl) ?_
    refine l_nil ?_
    refine r_seq ?_
    refine r_seq ?_
    refine r_region ?_
    refine l_x rfl (x_mv rfl) ?_
    refine l_x rfl (x_neq rfl rfl) ?_
    refine l_nil ?_
    refine r_ifd rfl (fun hc23 => ?_) (fun hc23 => ?_)
    · skip
      refine r_seq ?_
      refine r_region ?_
      refine l_x rfl (x_mv rfl) ?_
      refine l_x rfl (x_as rfl) ?_
      refine l_x rfl (x_as rfl) ?_
      refine l_nil ?_
      refine r_ret (rs := [.tmp 4, .tmp 5]) [_, _] Tryz.func11 rfl ⟨rfl, rfl, trivial⟩ ?_
      exact .inl ⟨_, hc23, rfl, hc23, S154.le⟩
    have h0 : prtE l (validF f && decide (0 ≤ f.num)) = 0 := Decidable.not_not.1 hc23
    obtain ⟨hl40, hl0, hft, hsp, hsb9⟩ := prt_ok h0
    rw [Bool.and_eq_true, decide_eq_true_eq] at hft
    have hf := hft.1
    have hsb : 0 < sumI l ∧ sumI l ≤ 40000 := ⟨hsp, hsb9⟩
    refine r_skip ?_
    refine r_seq ?_
    refine r_region ?_
    refine l_alloc S154 rfl Tryz.zeroValue34 rfl ?_
    intro b160 w157 S158 hl159
    refine l_nil ?_
    refine r_seq ?_
    have S161 := S158.nilvec (E := EF)
    have S162 := S161.pick (L' := [_, _, _, _, _]) [0, 1, 3, 4, 5] (by decide) rfl
    have S163 := Own.pack (A := [_, _, _]) (L := [_, _]) S162
    refine r_region ?_
    refine l_x rfl (x_func rfl rfl) ?_
    refine l_call [] [] [_] rfl rfl Tryz.call24 rfl (c_ranged (pack [blk b160 [.slice none 0 0] 34, vec EF (.slice none 0 0) []]) (fun r' => (divL f l).all okF = true ∧ ∃ vo, r' = pack [blk b160 [vo] 34, vec EF vo (divL f l)]) (fun _ => (divL f l).all okF = false) 32 [.pointer (some ⟨b8, 0, none⟩), .pointer (some ⟨b160, 0, none⟩), .pointer (some ⟨b4, 0, none⟩), .pointer (some ⟨b124, 0, none⟩)] _ Tryz.call32 (fun w1 S1 hk1 => (c_Divide1 f l vp b8 b160 b4 b124 w hL (by omega) hf hl0 hsb w1 (S163.under 3 rfl hk1).le (fun b hb => (S163.bd 3 _ rfl b hb).2.resolve_right id) ((S163.blk 1 rfl).keep hk1 (fun hq => S163.dj 1 3 _ _ rfl rfl (by decide) _ rfl hq)) ((S163.blk 0 rfl).keep hk1 (fun hq => S163.dj 0 3 _ _ rfl rfl (by decide) _ rfl hq)) (blk_pos h0 ((S163.blk 2 rfl).keep hk1 (fun hq => S163.dj 2 3 _ _ rfl rfl (by decide) _ rfl hq))) (fun hq => S163.dj 1 3 _ _ rfl rfl (by decide) _ rfl hq) (fun hq => S163.dj 0 3 _ _ rfl rfl (by decide) _ rfl hq) (fun hq => S163.dj 2 3 _ _ rfl rfl (by decide) _ rfl hq) S1).mono (fun _ _ ⟨h1, vo, h2⟩ => ⟨_, ⟨h1, vo, rfl⟩, h2⟩) fun _ _ ⟨h1, h2, r', h3⟩ => ⟨h1, r', h2, h3⟩) (S163.lend 3 rfl)) ?_
    rintro _ w164 (⟨rfl, r26164, ⟨hall9, vo9, rfl⟩, hb26164⟩ | ⟨rfl, r26164, hall9, hb26164⟩)
    · skip
      have S165 := Own.unpack (A := [_, _, _]) (L := [_, _]) (S163.back 3 rfl hb26164)
      refine l_x rfl (x_as rfl) ?_
      refine l_nil ?_
      refine r_seq ?_
      refine r_seq ?_
      refine r_region ?_
      refine l_x rfl (x_mv rfl) ?_
      refine l_x rfl (x_neq rfl rfl) ?_
      refine l_nil ?_
      refine r_ifd rfl (fun hc28 => ?_) (fun hc28 => ?_)
      · exact absurd rfl hc28
      refine r_skip ?_
      refine r_seq ?_
      refine r_region ?_
      refine l_x rfl (x_load rfl (ld_blk (S165.blk 3 rfl) Tryz.isAgg34 rfl)) ?_
      refine l_x rfl (x_as rfl) ?_
      refine l_x rfl (x_as rfl) ?_
      refine l_nil ?_
      refine r_ret (rs := [.tmp 4, .tmp 5]) [_, _] Tryz.func11 rfl ⟨rfl, rfl, trivial⟩ ?_
      exact .inr (.inr ⟨h0, hall9, _, rfl, S165.new 4 rfl, S165.le⟩)
    have S166 := S163.back 3 rfl hb26164
    refine l_x rfl (x_as rfl) ?_
    refine l_nil ?_
    refine r_seq ?_
    refine r_seq ?_
    refine r_region ?_
    refine l_x rfl (x_mv rfl) ?_
    refine l_x rfl (x_neq rfl rfl) ?_
    refine l_nil ?_
    refine r_ifd rfl (fun hc28 => ?_) (fun hc28 => ?_)
    · skip
      refine r_seq ?_
      refine r_region ?_
      refine l_x rfl (x_mv rfl) ?_
      refine l_x rfl (x_as rfl) ?_
      refine l_x rfl (x_as rfl) ?_
      refine l_nil ?_
      refine r_ret (rs := [.tmp 4, .tmp 5]) [_, _] Tryz.func11 rfl ⟨rfl, rfl, trivial⟩ ?_
      exact .inr (.inl ⟨h0, hall9, rfl, S166.le⟩)
    exact absurd hc28 (by decide)
  refine s_allocY S11 rfl Tryz.zeroValue3 rfl ?_
  intro b170 w167 S168 hl169 hb171
  refine ⟨.of_le hl169, ?_⟩
  have hy172 : Keep (yng w5) w5 w167 := hy12.trans (Keep.of_le hl169)
  refine e_next [2] (by kernel_rfl) (by kernel_rfl) ⟨⟨_, _, rfl, rfl, ?_⟩, trivial⟩
  refine s_buildSlice EF [f] (Own.start (X := nob) w167) rfl Tryz.runUnderlying34 Tryz.sizeOf28 Tryz.zeroValue28 rfl ⟨rfl, rfl, trivial⟩ (by decide) ?_
  intro v177 w173 S174 hl176
  have hn178 := S174.new 0 rfl
  have S175 := S168.add hl176 hn178
  refine ⟨.of_le hl176, ?_⟩
  have hyb179 : ∀ c, (vec EF v177 []).fp c → yng w5 c := fun c hc => Nat.le_trans hy172.size (hn178.bd c hc).1
  have hy180 : Keep (yng w5) w5 w173 := hy172.trans (Keep.of_le hl176)
  refine e_next [3] (by kernel_rfl) (by kernel_rfl) ⟨⟨_, _, rfl, rfl, ?_⟩, trivial⟩
  refine s_callf [] [] [_] rfl rfl Tryz.call31 rfl ((c_valid _ [f] (by show 1 ≤ _; decide) _ (vec_rd (S175.at 3 rfl))).mono ?_)
  rintro _ w181 ⟨rfl, hl183⟩
  have S182 := S175.step hl183
  refine ⟨.of_le hl183, ?_⟩
  have hy184 : Keep (yng w5) w5 w181 := hy180.trans (Keep.of_le hl183)
  refine e_exact 4 _ (by kernel_rfl) rfl rfl (by kernel_rfl) rfl (ex_x rfl (fun w1 h1 => x_mv rfl)) ?_
  refine e_split (d := 14) rfl (fun hg14 => ?_) (fun hg14 => ?_)
  · skip
    refine e_exact 5 _ (by kernel_rfl) rfl rfl (by kernel_rfl) rfl (ex_x rfl (fun w1 h1 => x_fieldAddr rfl Tryz.runUnderlying28 rfl Tryz.sizeOf3 (by decide))) ?_
    refine e_exact 6 _ (by kernel_rfl) rfl rfl (by kernel_rfl) rfl (ex_x rfl (fun w1 h1 => x_load rfl (ld_blk ((S6.yng (hy184.trans h1)).blk 0 rfl) Tryz.isAgg3 rfl))) ?_
    refine e_exact 7 _ (by kernel_rfl) rfl rfl (by kernel_rfl) rfl (ex_x rfl (fun w1 h1 => x_geq rfl rfl)) ?_
    refine e_exact 8 _ (by kernel_rfl) rfl rfl (by kernel_rfl) rfl (ex_x rfl (fun w1 h1 => x_pick_t rfl rfl)) ?_
    refine e_next [9] (by kernel_rfl) (by kernel_rfl) ⟨⟨_, _, rfl, rfl, ?_⟩, trivial⟩
    refine s_callf [] [] [_, _] rfl rfl Tryz.call27 rfl ((c_partedT f l _ (by simpa using hg14) _ (hL.le S182.le)).mono ?_)
    rintro _ w185 ⟨rfl, hl187⟩
    have S186 := S182.step hl187
    refine ⟨.of_le hl187, ?_⟩
    have hy188 : Keep (yng w5) w5 w185 := hy184.trans (Keep.of_le hl187)
    refine e_exact 10 _ (by kernel_rfl) rfl rfl (by kernel_rfl) rfl (ex_x rfl (fun w1 h1 => x_mv rfl)) ?_
    refine e_exact 11 _ (by kernel_rfl) rfl rfl (by kernel_rfl) rfl (ex_x rfl (fun w1 h1 => x_extract rfl rfl)) ?_
    refine e_exact 12 _ (by kernel_rfl) rfl rfl (by kernel_rfl) rfl (ex_x rfl (fun w1 h1 => x_extract rfl rfl)) ?_
    refine e_next [14] (by kernel_rfl) (by kernel_rfl) ⟨⟨_, _, rfl, rfl, ?_⟩, trivial⟩
    refine s_stores (vs := [_]) S186 2 rfl rfl rfl rfl (ones_cons rfl ones_nil) Tryz.sizeOf3 (by first | exact Nat.le_refl _ | simp) (splice_all rfl) ?_
    intro w189 S190 hk191
    refine ⟨(yng_blk hy12 hb171 hk191), ?_⟩
    have hy192 : Keep (yng w5) w5 w189 := hy188.trans ((yng_blk hy12 hb171 hk191))
    refine e_done (by kernel_rfl) ?_
    refine l_x rfl (x_as rfl) ?_
    refine l_nil ?_
    refine r_seq ?_
    refine r_seq ?_
    refine r_region ?_
    refine l_x rfl (x_mv rfl) ?_
    refine l_x rfl (x_neq rfl rfl) ?_
    refine l_nil ?_
    refine r_ifd rfl (fun hc23 => ?_) (fun hc23 => ?_)
    · skip
      refine r_seq ?_
      refine r_region ?_
      refine l_x rfl (x_mv rfl) ?_
      refine l_x rfl (x_as rfl) ?_
      refine l_x rfl (x_as rfl) ?_
      refine l_nil ?_
      refine r_ret (rs := [.tmp 4, .tmp 5]) [_, _] Tryz.func11 rfl ⟨rfl, rfl, trivial⟩ ?_
      exact .inl ⟨_, hc23, rfl, hc23, S190.le⟩
    have h0 : prtE l (validF f && decide (0 ≤ f.num)) = 0 := Decidable.not_not.1 hc23
    obtain ⟨hl40, hl0, hft, hsp, hsb9⟩ := prt_ok h0
    rw [Bool.and_eq_true, decide_eq_true_eq] at hft
    have hf := hft.1
    have hsb : 0 < sumI l ∧ sumI l ≤ 40000 := ⟨hsp, hsb9⟩
    refine r_skip ?_
    refine r_seq ?_
    refine r_region ?_
    refine l_alloc S190 rfl Tryz.zeroValue34 rfl ?_
    intro b196 w193 S194 hl195
    refine l_nil ?_
    refine r_seq ?_
    have S197 := S194.nilvec (E := EF)
    have S198 := S197.pick (L' := [_, _, _, _, _]) [0, 1, 2, 4, 5] (by decide) rfl
    have S199 := Own.pack (A := [_, _, _]) (L := [_, _]) S198
    refine r_region ?_
    refine l_x rfl (x_func rfl rfl) ?_
    refine l_call [] [] [_] rfl rfl Tryz.call24 rfl (c_ranged (pack [blk b196 [.slice none 0 0] 34, vec EF (.slice none 0 0) []]) (fun r' => (divL f l).all okF = true ∧ ∃ vo, r' = pack [blk b196 [vo] 34, vec EF vo (divL f l)]) (fun _ => (divL f l).all okF = false) 32 [.pointer (some ⟨b8, 0, none⟩), .pointer (some ⟨b196, 0, none⟩), .pointer (some ⟨b4, 0, none⟩), .pointer (some ⟨b170, 0, none⟩)] _ Tryz.call32 (fun w1 S1 hk1 => (c_Divide1 f l vp b8 b196 b4 b170 w hL (by omega) hf hl0 hsb w1 (S199.under 3 rfl hk1).le (fun b hb => (S199.bd 3 _ rfl b hb).2.resolve_right id) ((S199.blk 1 rfl).keep hk1 (fun hq => S199.dj 1 3 _ _ rfl rfl (by decide) _ rfl hq)) ((S199.blk 0 rfl).keep hk1 (fun hq => S199.dj 0 3 _ _ rfl rfl (by decide) _ rfl hq)) (blk_pos h0 ((S199.blk 2 rfl).keep hk1 (fun hq => S199.dj 2 3 _ _ rfl rfl (by decide) _ rfl hq))) (fun hq => S199.dj 1 3 _ _ rfl rfl (by decide) _ rfl hq) (fun hq => S199.dj 0 3 _ _ rfl rfl (by decide) _ rfl hq) (fun hq => S199.dj 2 3 _ _ rfl rfl (by decide) _ rfl hq) S1).mono (fun _ _ ⟨h1, vo, h2⟩ => ⟨_, ⟨h1, vo, rfl⟩, h2⟩) fun _ _ ⟨h1, h2, r', h3⟩ => ⟨h1, r', h2, h3⟩) (S199.lend 3 rfl)) ?_
    rintro _ w200 (⟨rfl, r26200, ⟨hall9, vo9, rfl⟩, hb26200⟩ | ⟨rfl, r26200, hall9, hb26200⟩)
    · skip
      have S201 := Own.unpack (A := [_, _, _]) (L := [_, _]) (S199.back 3 rfl hb26200)
      refine l_x rfl (x_as rfl) ?_
      refine l_nil ?_
      refine r_seq ?_
      refine r_seq ?_
      refine r_region ?_
      refine l_x rfl (x_mv rfl) ?_
      refine l_x rfl (x_neq rfl rfl) ?_
      refine l_nil ?_
      refine r_ifd rfl (fun hc28 => ?_) (fun hc28 => ?_)
      · exact absurd rfl hc28
      refine r_skip ?_
      refine r_seq ?_
      refine r_region ?_
      refine l_x rfl (x_load rfl (ld_blk (S201.blk 3 rfl) Tryz.isAgg34 rfl)) ?_
      refine l_x rfl (x_as rfl) ?_
      refine l_x rfl (x_as rfl) ?_
      refine l_nil ?_
      refine r_ret (rs := [.tmp 4, .tmp 5]) [_, _] Tryz.func11 rfl ⟨rfl, rfl, trivial⟩ ?_
      exact .inr (.inr ⟨h0, hall9, _, rfl, S201.new 4 rfl, S201.le⟩)
    have S202 := S199.back 3 rfl hb26200
    refine l_x rfl (x_as rfl) ?_
    refine l_nil ?_
    refine r_seq ?_
    refine r_seq ?_
    refine r_region ?_
    refine l_x rfl (x_mv rfl) ?_
    refine l_x rfl (x_neq rfl rfl) ?_
    refine l_nil ?_
    refine r_ifd rfl (fun hc28 => ?_) (fun hc28 => ?_)
    · skip
      refine r_seq ?_
      refine r_region ?_
      refine l_x rfl (x_mv rfl) ?_
      refine l_x rfl (x_as rfl) ?_
      refine l_x rfl (x_as rfl) ?_
      refine l_nil ?_
      refine r_ret (rs := [.tmp 4, .tmp 5]) [_, _] Tryz.func11 rfl ⟨rfl, rfl, trivial⟩ ?_
      exact .inr (.inl ⟨h0, hall9, rfl, S202.le⟩)
    exact absurd hc28 (by decide)
  refine e_exact 5 _ (by kernel_rfl) rfl rfl (by kernel_rfl) rfl (ex_pass rfl) ?_
  refine e_exact 6 _ (by kernel_rfl) rfl rfl (by kernel_rfl) rfl (ex_pass rfl) ?_
  refine e_exact 7 _ (by kernel_rfl) rfl rfl (by kernel_rfl) rfl (ex_pass rfl) ?_
  refine e_exact 8 _ (by kernel_rfl) rfl rfl (by kernel_rfl) rfl (ex_x rfl (fun w1 h1 => x_pick_f rfl rfl)) ?_
  refine e_next [9] (by kernel_rfl) (by kernel_rfl) ⟨⟨_, _, rfl, rfl, ?_⟩, trivial⟩
  refine s_callf [] [] [_, _] rfl rfl Tryz.call27 rfl ((c_partedF f l _ (by simpa using hg14) _ (hL.le S182.le)).mono ?_)
  rintro _ w203 ⟨rfl, hl205⟩
  have S204 := S182.step hl205
  refine ⟨.of_le hl205, ?_⟩
  have hy206 : Keep (yng w5) w5 w203 := hy184.trans (Keep.of_le hl205)
  refine e_exact 10 _ (by kernel_rfl) rfl rfl (by kernel_rfl) rfl (ex_x rfl (fun w1 h1 => x_mv rfl)) ?_
  refine e_exact 11 _ (by kernel_rfl) rfl rfl (by kernel_rfl) rfl (ex_x rfl (fun w1 h1 => x_extract rfl rfl)) ?_
  refine e_exact 12 _ (by kernel_rfl) rfl rfl (by kernel_rfl) rfl (ex_x rfl (fun w1 h1 => x_extract rfl rfl)) ?_
  refine e_next [14] (by kernel_rfl) (by kernel_rfl) ⟨⟨_, _, rfl, rfl, ?_⟩, trivial⟩
  refine s_stores (vs := [_]) S204 2 rfl rfl rfl rfl (ones_cons rfl ones_nil) Tryz.sizeOf3 (by first | exact Nat.le_refl _ | simp) (splice_all rfl) ?_
  intro w207 S208 hk209
  refine ⟨(yng_blk hy12 hb171 hk209), ?_⟩
  have hy210 : Keep (yng w5) w5 w207 := hy206.trans ((yng_blk hy12 hb171 hk209))
  refine e_done (by kernel_rfl) ?_
  refine l_x rfl (x_as rfl) ?_
  refine l_nil ?_
  refine r_seq ?_
  refine r_seq ?_
  refine r_region ?_
  refine l_x rfl (x_mv rfl) ?_
  refine l_x rfl (x_neq rfl rfl) ?_
  refine l_nil ?_
  refine r_ifd rfl (fun hc23 => ?_) (fun hc23 => ?_)
  · skip
    refine r_seq ?_
    refine r_region ?_
    refine l_x rfl (x_mv rfl) ?_
    refine l_x rfl (x_as rfl) ?_
    refine l_x rfl (x_as rfl) ?_
    refine l_nil ?_
    refine r_ret (rs := [.tmp 4, .tmp 5]) [_, _] Tryz.func11 rfl ⟨rfl, rfl, trivial⟩ ?_
    exact .inl ⟨_, hc23, rfl, hc23, S208.le⟩
  have h0 : prtE l (validF f && decide (0 ≤ f.num)) = 0 := Decidable.not_not.1 hc23
  obtain ⟨hl40, hl0, hft, hsp, hsb9⟩ := prt_ok h0
  rw [Bool.and_eq_true, decide_eq_true_eq] at hft
  have hf := hft.1
  have hsb : 0 < sumI l ∧ sumI l ≤ 40000 := ⟨hsp, hsb9⟩
  refine r_skip ?_
  refine r_seq ?_
  refine r_region ?_
  refine l_alloc S208 rfl Tryz.zeroValue34 rfl ?_
  intro b214 w211 S212 hl213
  refine l_nil ?_
  refine r_seq ?_
  have S215 := S212.nilvec (E := EF)
  have S216 := S215.pick (L' := [_, _, _, _, _]) [0, 1, 2, 4, 5] (by decide) rfl
  have S217 := Own.pack (A := [_, _, _]) (L := [_, _]) S216
  refine r_region ?_
  refine l_x rfl (x_func rfl rfl) ?_
  refine l_call [] [] [_] rfl rfl Tryz.call24 rfl (c_ranged (pack [blk b214 [.slice none 0 0] 34, vec EF (.slice none 0 0) []]) (fun r' => (divL f l).all okF = true ∧ ∃ vo, r' = pack [blk b214 [vo] 34, vec EF vo (divL f l)]) (fun _ => (divL f l).all okF = false) 32 [.pointer (some ⟨b8, 0, none⟩), .pointer (some ⟨b214, 0, none⟩), .pointer (some ⟨b4, 0, none⟩), .pointer (some ⟨b170, 0, none⟩)] _ Tryz.call32 (fun w1 S1 hk1 => (c_Divide1 f l vp b8 b214 b4 b170 w hL (by omega) hf hl0 hsb w1 (S217.under 3 rfl hk1).le (fun b hb => (S217.bd 3 _ rfl b hb).2.resolve_right id) ((S217.blk 1 rfl).keep hk1 (fun hq => S217.dj 1 3 _ _ rfl rfl (by decide) _ rfl hq)) ((S217.blk 0 rfl).keep hk1 (fun hq => S217.dj 0 3 _ _ rfl rfl (by decide) _ rfl hq)) (blk_pos h0 ((S217.blk 2 rfl).keep hk1 (fun hq => S217.dj 2 3 _ _ rfl rfl (by decide) _ rfl hq))) (fun hq => S217.dj 1 3 _ _ rfl rfl (by decide) _ rfl hq) (fun hq => S217.dj 0 3 _ _ rfl rfl (by decide) _ rfl hq) (fun hq => S217.dj 2 3 _ _ rfl rfl (by decide) _ rfl hq) S1).mono (fun _ _ ⟨h1, vo, h2⟩ => ⟨_, ⟨h1, vo, rfl⟩, h2⟩) fun _ _ ⟨h1, h2, r', h3⟩ => ⟨h1, r', h2, h3⟩) (S217.lend 3 rfl)) ?_
  rintro _ w218 (⟨rfl, r26218, ⟨hall9, vo9, rfl⟩, hb26218⟩ | ⟨rfl, r26218, hall9, hb26218⟩)
  · skip
    have S219 := Own.unpack (A := [_, _, _]) (L := [_, _]) (S217.back 3 rfl hb26218)
    refine l_x rfl (x_as rfl) ?_
    refine l_nil ?_
    refine r_seq ?_
    refine r_seq ?_
    refine r_region ?_
    refine l_x rfl (x_mv rfl) ?_
    refine l_x rfl (x_neq rfl rfl) ?_
    refine l_nil ?_
    refine r_ifd rfl (fun hc28 => ?_) (fun hc28 => ?_)
    · exact absurd rfl hc28
    refine r_skip ?_
    refine r_seq ?_
    refine r_region ?_
    refine l_x rfl (x_load rfl (ld_blk (S219.blk 3 rfl) Tryz.isAgg34 rfl)) ?_
    refine l_x rfl (x_as rfl) ?_
    refine l_x rfl (x_as rfl) ?_
    refine l_nil ?_
    refine r_ret (rs := [.tmp 4, .tmp 5]) [_, _] Tryz.func11 rfl ⟨rfl, rfl, trivial⟩ ?_
    exact .inr (.inr ⟨h0, hall9, _, rfl, S219.new 4 rfl, S219.le⟩)
  have S220 := S217.back 3 rfl hb26218
  refine l_x rfl (x_as rfl) ?_
  refine l_nil ?_
  refine r_seq ?_
  refine r_seq ?_
  refine r_region ?_
  refine l_x rfl (x_mv rfl) ?_
  refine l_x rfl (x_neq rfl rfl) ?_
  refine l_nil ?_
  refine r_ifd rfl (fun hc28 => ?_) (fun hc28 => ?_)
  · skip
    refine r_seq ?_
    refine r_region ?_
    refine l_x rfl (x_mv rfl) ?_
    refine l_x rfl (x_as rfl) ?_
    refine l_x rfl (x_as rfl) ?_
    refine l_nil ?_
    refine r_ret (rs := [.tmp 4, .tmp 5]) [_, _] Tryz.func11 rfl ⟨rfl, rfl, trivial⟩ ?_
    exact .inr (.inl ⟨h0, hall9, rfl, S220.le⟩)
  exact absurd hc28 (by decide)

end Go.Proofs

/-
  Contracts of functions of the program: each by symbolic execution of its text.
-/
namespace Go.Proofs
open Go Go.Vk Go.Vk.Flow

open Go.Vk.Deed

theorem free_bd {s : St} {o day : Int} (h : StB s) : free s o day ≤ 1000000000 := by
  have h1 := h.outS (o := o) (day := day)
  have h2 := h.pledged (o := o)
  have h3 := h.hb o
  unfold free; omega

set_option maxHeartbeats 4000000 in
/-- (*couchant/deed.roll).inherit. -/
theorem c_inherit (b : Nat) (n : Nm) (s : St) (a : Rw) (hf : formed a.1 = true) (hB : StB s) (hk : a.1.kind = 3) (hBm : 0 < free s a.1.frm a.1.day → ∀ i, StB (movesS a.1.frm (a.1.heirs.take i) ((wholeS (free s a.1.frm a.1.day) a.1.shares).take i) s)) (w0 : World) (hA : SubR 3 w0 a)  (w : World) (S0 : Own (rollS TY b n s).fp w w [rollS TY b n s]) (h0 : Le w0 w) (hX : ∀ c, (rollS TY b n s).fp c → w0.heap.size ≤ c) :
    Cp Tryz.prog 134 #[.pointer (some ⟨b, 0, none⟩), .agg (encD a).toArray] w (fun _ w' => ∃ n' s', do1 s a.1 = some s' ∧ Own (rollS TY b n s).fp w w' [rollS TY b n' s']) (fun v w' => v = .iface 156 (.agg #[]) ∧ do1 s a.1 = none ∧ ∃ n', Own (rollS TY b n s).fp w w' [rollS TY b n' s]) := by
  have hh := heirs_facts (formed_heirs hf hk)
  have hfr := free_bd hB (o := a.1.frm) (day := a.1.day)
  refine fn_of_runP (args := [_, _]) 54 Tryz.func134 rfl rfl rfl fun cs => ?_
  have S := S0
  refine r_seq ?_
  refine r_region ?_
  refine l_box S rfl rfl ?_
  intro b4 w1 S2 hl3
  refine l_nil ?_
  refine r_seq ?_
  refine r_region ?_
  refine l_x rfl (x_mv rfl) ?_
  refine l_x rfl (x_fieldAddr rfl Tryz.runUnderlying45 rfl Tryz.sizeOf3 (by decide)) ?_
  refine l_x rfl (x_load rfl (ld_blk (S2.blk 1 rfl) Tryz.isAgg3 rfl)) ?_
  refine l_x rfl (x_fieldAddr rfl Tryz.runUnderlying45 rfl Tryz.sizeOf3 (by decide)) ?_
  refine l_x rfl (x_load rfl (ld_blk (S2.blk 1 rfl) Tryz.isAgg3 rfl)) ?_
  refine l_call [] [] [_, _, _] rfl rfl Tryz.call156 rfl (c_freeS b n s _ _ hB _ (S2.ro 0 rfl)) ?_
  rintro _ w5 ⟨rfl, hl7⟩
  have S6 := S2.step hl7
  refine l_x rfl (x_as rfl) ?_
  refine l_nil ?_
  refine r_seq ?_
  refine r_region ?_
  refine l_x rfl (x_mv rfl) ?_
  refine l_x rfl (x_gtr rfl rfl) ?_
  refine l_callP [] [] [_] rfl rfl Tryz.call155 rfl (c_need _ _) ?_ ?_
  · skip
    rintro _ w8 ⟨hok10, hl10⟩
    have S9 := S6.step hl10
    have hpos := of_decide_eq_true hok10
    refine l_nil ?_
    refine r_seq ?_
    refine r_region ?_
    refine l_x rfl (x_mv rfl) ?_
    refine l_x rfl (x_fieldAddr rfl Tryz.runUnderlying45 rfl Tryz.sizeOf23 (by decide)) ?_
    refine l_x rfl (x_load rfl (ld_blk (S9.blk 1 rfl) Tryz.isAgg23 rfl)) ?_
    refine l_call [] [] [_, _] rfl rfl Tryz.call10 rfl (c_Whole _ _ _ (by omega) _ (hA.2.le (S9.old h0 hX))) ?_
    rintro _ w11 ⟨sw2211, r2211, e2211, rfl, he2211, hr2211, hN2211, hl2211⟩
    have S12 := S9.add hl2211 hN2211
    have he0 : e2211 = 0 := he2211.trans (prt_fine hh.2.2.2.2 (by omega) (by omega))
    subst he0
    obtain rfl : r2211 = wholeS (free s a.1.frm a.1.day) a.1.shares := hr2211 rfl
    refine l_x rfl (x_mv rfl) ?_
    refine l_x rfl (x_extract rfl rfl) ?_
    refine l_x rfl (x_extract rfl rfl) ?_
    refine l_x rfl (x_as rfl) ?_
    refine l_x rfl (x_as rfl) ?_
    refine l_nil ?_
    refine r_seq ?_
    refine r_region ?_
    refine l_x rfl (x_mv rfl) ?_
    refine l_x rfl (x_eql rfl rfl) ?_
    refine l_x rfl (x_mv rfl) ?_
    refine l_splitd (d := 27) rfl (fun hg27 => ?_) (fun hg27 => ?_)
    · skip
      refine l_x rfl (x_mv rfl) ?_
      refine l_x rfl (x_len (vec_rd (S12.at 2 rfl)) rfl Tryz.runUnderlying23) ?_
      refine l_x rfl (x_fieldAddr rfl Tryz.runUnderlying45 rfl Tryz.sizeOf23 (by decide)) ?_
      refine l_x rfl (x_load rfl (ld_blk (S12.blk 1 rfl) Tryz.isAgg23 rfl)) ?_
      refine l_x rfl (x_len (hA.1.le (S12.old h0 hX)) rfl Tryz.runUnderlying23) ?_
      refine l_x rfl (x_eql rfl rfl) ?_
      refine l_x rfl (x_pick_t rfl rfl) ?_
      refine l_callP [] [] [_] rfl rfl Tryz.call155 rfl (c_need _ _) ?_ ?_
      · skip
        rintro _ w13 ⟨hok15, hl15⟩
        have S14 := S12.step hl15
        refine l_nil ?_
        refine r_seq ?_
        refine r_region ?_
        refine l_x rfl (x_fieldAddr rfl Tryz.runUnderlying45 rfl Tryz.sizeOf23 (by decide)) ?_
        refine l_x rfl (x_load rfl (ld_blk (S14.blk 1 rfl) Tryz.isAgg23 rfl)) ?_
        refine l_x rfl (x_len (hA.1.le (S14.old h0 hX)) rfl Tryz.runUnderlying23) ?_
        refine l_x rfl (x_mv rfl) ?_
        refine l_nil ?_
        refine r_block ?_
        refine r_loop (G := Nat × Nm) (fun ⟨i, n1⟩ => a.1.heirs.length - i) (fun ⟨i, n1⟩ => [(0, .pointer (some ⟨b, 0, none⟩)), (3, .pointer (some ⟨b4, 0, none⟩)), (5, sw2211), (37, hv a.2.1), (38, .int .i64 a.1.heirs.length), (39, .int .i64 i)]) (fun ⟨i, n1⟩ w' => (i ≤ a.1.heirs.length) ∧ Own (rollS TY b n s).fp w w' [rollS TY b n1 (movesS a.1.frm (a.1.heirs.take i) ((wholeS (free s a.1.frm a.1.day) a.1.shares).take i) s), blk b4 (encD a) 45, vec EI sw2211 (wholeS (free s a.1.frm a.1.day) a.1.shares)]) (0, n) ⟨rfl, rfl, rfl, rfl, rfl, rfl, trivial⟩ ⟨Nat.zero_le _, (S14.pick [0, 1, 2] (by decide) rfl)⟩ ?_
        rintro ⟨i, n1⟩ ρ w1 ⟨hi, S1⟩ IH
        refine r_seq ?_
        refine r_region ?_
        refine l_x rfl (x_lss rfl rfl) ?_
        refine l_nil ?_
        refine r_seq ?_
        refine r_ifd rfl (fun hc40 => ?_) (fun hc40 => ?_)
        · skip
          obtain ⟨h, hhi⟩ : ∃ h, a.1.heirs[i]? = some h := ⟨_, List.getElem?_eq_getElem (by omega)⟩
          obtain ⟨y, hy⟩ : ∃ y, (wholeS (free s a.1.frm a.1.day) a.1.shares)[i]? = some y := ⟨_, List.getElem?_eq_getElem (by rw [whole_len]; omega)⟩
          refine r_skip ?_
          refine r_seq ?_
          refine r_block ?_
          refine r_seq ?_
          refine r_region ?_
          refine l_x rfl (x_mv rfl) ?_
          refine l_index EI rfl (hA.1.le (S1.old h0 hX)) rfl rfl Tryz.runUnderlying23 Tryz.sizeOf3 (by omega) hhi ?_
          intro b16 o17 hat18 row19
          refine l_x rfl (x_load rfl (ld_cell Tryz.isAgg3 (row19 0 _ rfl))) ?_
          refine l_x rfl (x_as rfl) ?_
          refine l_x rfl (x_as rfl) ?_
          refine l_nil ?_
          refine r_drawR 8 Tryz.mixed (by kernel_rfl) ?_
          refine w_x rfl (fun w1 h1 => x_mv rfl) ?_
          refine w_x rfl (fun w1 h1 => x_fieldAddr rfl Tryz.runUnderlying45 rfl Tryz.sizeOf3 (by decide)) ?_
          refine w_x rfl (fun w1 h1 => x_load rfl (ld_blk ((S1.step h1).blk 1 rfl) Tryz.isAgg3 rfl)) ?_
          refine w_x rfl (fun w1 h1 => x_mv rfl) ?_
          refine w_x rfl (fun w1 h1 => x_mv rfl) ?_
          refine w_x rfl (fun w1 h1 => x_mv rfl) ?_
          refine w_index EI rfl (vec_rd (S1.at 2 rfl)) rfl rfl Tryz.runUnderlying23 Tryz.sizeOf3 (by omega) hy ?_
          intro b20 o21 hat22 row23
          refine w_x rfl (fun w1 h1 => x_load rfl (ld_cell Tryz.isAgg3 ((row23.le h1) 0 _ rfl))) ?_
          refine w_nil ?_
          intro w24 hl25
          have S26 := S1.step hl25
          refine l_call [] [] [_, _, _, _] rfl rfl Tryz.call157 rfl (c_move b n1 (movesS a.1.frm (a.1.heirs.take i) ((wholeS (free s a.1.frm a.1.day) a.1.shares).take i) s) a.1.frm h y hh.2.2.1 (hh.2.2.2.1 h (List.mem_of_getElem? hhi)) (hBm hpos i) (whole_bd (by omega) (fun x hx => by have := hh.2.2.2.2 x hx; omega) (sum_pos hh.2.2.2.2 (by omega)) hy) _ (S26.lend 0 rfl)) ?_
          rintro _ w27 ⟨nn29, hb30⟩
          have S28 := S26.back 0 rfl hb30
          refine l_nil ?_
          refine r_inBlock ?_
          refine r_region ?_
          refine l_x rfl (x_add rfl rfl (by omega)) ?_
          refine l_x rfl (x_mv rfl) ?_
          refine l_nil ?_
          exact IH (i + 1, nn29) _ _ (by dsimp only; omega) ⟨rfl, rfl, rfl, rfl, rfl, rfl, trivial⟩ ⟨by omega, (by rw [moves_step hhi hy]; exact S28.take 3)⟩
        obtain rfl : i = a.1.heirs.length := by omega
        refine r_exit rfl ?_
        refine p_end (rs := []) [] Tryz.func134 rfl trivial ?_
        exact ⟨n1, _, do_heirs hk (of_decide_eq_true hok10), by have h : Own _ _ _ [rollS TY b n1 (movesS a.1.frm (a.1.heirs.take a.1.heirs.length) ((wholeS (free s a.1.frm a.1.day) a.1.shares).take a.1.heirs.length) s)] := S1.take 1; rw [List.take_length, List.take_of_length_le (by rw [whole_len]; omega)] at h; exact h⟩
      rintro _ w31 k ⟨hno33, rfl, hl33⟩
      have S32 := S12.step hl33
      exact absurd (show (((wholeS (free s a.1.frm a.1.day) a.1.shares).length : Nat) : Int) = a.1.heirs.length by rw [whole_len, hh.2.1]) (of_decide_eq_false hno33)
    exact absurd rfl hg27
  rintro _ w34 k ⟨hno36, rfl, hl36⟩
  have S35 := S6.step hl36
  exact leaveU_panic Tryz.func134 ⟨rfl, do_heirs0 hk (of_decide_eq_false hno36), n, S35.take 1⟩

end Go.Proofs

/-
  Contracts of functions of the program: each by symbolic execution of its text.
-/
namespace Go.Proofs
open Go Go.Vk Go.Vk.Flow

open Go.Vk.Deed

/-- couchant/deed.kinds. -/
theorem c_kinds  (w : World) :
    Cl Tryz.prog 118 #[] w fun v w' => v = .agg #[.nilFunc, .func (.func 132) #[] #[], .func (.func 133) #[] #[], .func (.func 134) #[] #[], .func (.func 135) #[] #[], .func (.func 136) #[] #[], .func (.func 137) #[] #[], .func (.func 138) #[] #[]] ∧ Le w w' := by
  refine fn_of_run (args := []) 2 Tryz.func118 rfl rfl rfl fun cs => ?_
  have S := Own.start (X := nob) w
  refine r_seq ?_
  refine r_region ?_
  refine l_alloc S rfl Tryz.zeroValue158 rfl ?_
  intro b4 w1 S2 hl3
  refine l_nil ?_
  refine r_seq ?_
  refine r_region ?_
  refine l_x rfl (x_buildA (out := [_, _, _, _, _, _, _, _]) Tryz.zeroValue158 rfl Tryz.runUnderlying158 Tryz.sizeOf157 (fill_cons rfl rfl rfl (Nat.le_of_ble_eq_true rfl) (fill_cons rfl rfl rfl (Nat.le_of_ble_eq_true rfl) (fill_cons rfl rfl rfl (Nat.le_of_ble_eq_true rfl) (fill_cons rfl rfl rfl (Nat.le_of_ble_eq_true rfl) (fill_cons rfl rfl rfl (Nat.le_of_ble_eq_true rfl) (fill_cons rfl rfl rfl (Nat.le_of_ble_eq_true rfl) (fill_cons rfl rfl rfl (Nat.le_of_ble_eq_true rfl) fill_nil)))))))) ?_
  refine l_stores (vs := [_, _, _, _, _, _, _, _]) S2 0 rfl rfl rfl rfl (ones_cons rfl (ones_cons rfl (ones_cons rfl (ones_cons rfl (ones_cons rfl (ones_cons rfl (ones_cons rfl (ones_cons rfl ones_nil)))))))) Tryz.sizeOf158 (by first | exact Nat.le_refl _ | simp) (splice_all rfl) ?_
  intro w5 S6 hk7
  refine l_nil ?_
  refine r_ret (rs := [.cell 0 158]) [_] Tryz.func118 rfl ⟨⟨_, rfl, (ld_blks (S6.blk 0 rfl) Tryz.isAgg158 Tryz.sizeOf158 rfl rfl)⟩, trivial⟩ ?_
  exact ⟨rfl, S6.le⟩

/-- (*couchant/deed.roll).try$1. -/
theorem c_try0 (b2 b3 : Nat) (w : World) :
    Dl Tryz.prog 117 #[.pointer (some ⟨b2, 0, none⟩), .pointer (some ⟨b3, 0, none⟩)] (.returning) w (fun u w' => u = .returning ∧ Le w w') := by
  refine dl_of_run (args := [_, _]) 22 Tryz.func117 rfl rfl rfl fun c0 cs hc0 => d_same hc0 ?_
  have S := Own.start (X := nob) w
  refine r_seq ?_
  refine r_region ?_
  refine l_recover0 rfl ?_
  refine l_nil ?_
  refine r_block ?_
  refine r_seq ?_
  refine r_region ?_
  refine l_x rfl (x_niliface Tryz.runUnderlying20 rfl rfl (.inl rfl) rfl) ?_
  refine l_nil ?_
  refine r_true rfl ?_
  refine r_region ?_
  refine l_x rfl (x_as rfl) ?_
  refine l_nil ?_
  refine r_inBlock ?_
  refine d_end (rs := []) [] Tryz.func117 rfl trivial ?_
  exact ⟨rfl, S.le⟩

set_option maxHeartbeats 2000000 in
/-- (*couchant/deed.roll).try$1. -/
theorem c_try1 (b : Nat) (n : Nm) (s : St) (a : Rw) (b2 b3 : Nat) (hil : s.idle.length ≤ 1000) (hn2 : ¬ (rollS TY b n s).fp b2) (hn3 : ¬ (rollS TY b n s).fp b3) (w : World) (hb2 : Blk w b2 [.pointer (some ⟨b, 0, none⟩)] 82) (hb3 : Blk w b3 (encD a) 45) (S0 : Own (rollS TY b n s).fp w w [rollS TY b n s]) :
    Dl Tryz.prog 117 #[.pointer (some ⟨b2, 0, none⟩), .pointer (some ⟨b3, 0, none⟩)] (.panicking [pentry (.iface 156 (.agg #[]))]) w (fun u w' => u = .panicking [pdone (.iface 156 (.agg #[]))] ∧ ∃ n', Own (rollS TY b n s).fp w w' [rollS TY b n' (idleS s a.1.id)]) := by
  refine dl_of_run (args := [_, _]) 22 Tryz.func117 rfl rfl rfl fun c0 cs hc0 => d_same hc0 ?_
  obtain ⟨hs, pf, sf, hok, S⟩ := Own.rollOpen (A := []) S0
  refine r_seq ?_
  refine r_region ?_
  refine l_recover rfl ?_
  refine l_nil ?_
  refine r_block ?_
  refine r_seq ?_
  refine r_region ?_
  refine l_x rfl (x_niliface Tryz.runUnderlying20 rfl rfl (.inr ⟨_, _, rfl⟩) rfl) ?_
  refine l_nil ?_
  refine r_false rfl ?_
  refine r_seq ?_
  refine r_region ?_
  refine l_x rfl (x_assert rfl Tryz.runUnderlying156 rfl) ?_
  refine l_x rfl (x_extract rfl rfl) ?_
  refine l_x rfl (x_extract rfl rfl) ?_
  refine l_nil ?_
  refine r_true rfl ?_
  refine r_seq ?_
  refine r_region ?_
  refine l_alloc S rfl Tryz.zeroValue156 rfl ?_
  intro b4 w1 S2 hl3
  refine l_stores (vs := []) S2 7 rfl rfl rfl rfl (ones_nil) Tryz.sizeOf156 (by first | exact Nat.le_refl _ | simp) (splice_all rfl) ?_
  intro w5 S6 hk7
  refine l_nil ?_
  refine r_drawE 9 (Rsc.fp (vec EI n.iv s.idle)) Tryz.mixed (by kernel_rfl) ?_
  intro w8 hl9
  have S10 := S6.step hl9
  refine e_exact 0 _ (by kernel_rfl) rfl rfl (by kernel_rfl) rfl (ex_x rfl (fun w1 h1 => x_load rfl (ld_blk (hb2.keep (S10.under 4 rfl h1).keep hn2) Tryz.isAgg82 rfl))) ?_
  refine e_exact 1 _ (by kernel_rfl) rfl rfl (by kernel_rfl) rfl (ex_x rfl (fun w1 h1 => x_load rfl (ld_blk (hb2.keep (S10.under 4 rfl h1).keep hn2) Tryz.isAgg82 rfl))) ?_
  refine e_exact 2 _ (by kernel_rfl) rfl rfl (by kernel_rfl) rfl (ex_x rfl (fun w1 h1 => x_nilCheck rfl)) ?_
  refine e_exact 3 _ (by kernel_rfl) rfl rfl (by kernel_rfl) rfl (ex_x rfl (fun w1 h1 => x_fieldAddr rfl Tryz.runUnderlying81 rfl Tryz.sizeOf23 (by decide))) ?_
  refine e_exact 4 _ (by kernel_rfl) rfl rfl (by kernel_rfl) rfl (ex_x rfl (fun w1 h1 => x_load rfl (ld_blk ((S10.under 4 rfl h1).blk 0 rfl) Tryz.isAgg23 rfl))) ?_
  refine e_exact 5 _ (by kernel_rfl) rfl rfl (by kernel_rfl) rfl (ex_x rfl (fun w1 h1 => x_fieldAddr rfl Tryz.runUnderlying45 rfl Tryz.sizeOf3 (by decide))) ?_
  refine e_exact 6 _ (by kernel_rfl) rfl rfl (by kernel_rfl) rfl (ex_x rfl (fun w1 h1 => x_load rfl (ld_blk (hb3.keep (S10.under 4 rfl h1).keep hn3) Tryz.isAgg3 rfl))) ?_
  refine e_next [7] (by kernel_rfl) (by kernel_rfl) ⟨⟨_, _, rfl, rfl, ?_⟩, trivial⟩
  refine s_buildSlice EI [a.1.id] S10 rfl Tryz.runUnderlying23 Tryz.sizeOf3 Tryz.zeroValue3 rfl ⟨rfl, rfl, trivial⟩ (by decide) ?_
  intro v14 w11 S12 hl13
  refine ⟨.of_le hl13, ?_⟩
  refine e_next [8] (by kernel_rfl) (by kernel_rfl) ⟨⟨_, _, rfl, rfl, ?_⟩, trivial⟩
  refine s_append EI S12 4 rfl rfl rfl rfl (vec_rd (S12.at 8 rfl)) Tryz.underlying23 info3 rfl rfl rfl (by unfold maxLen; rw [List.length_singleton]; omega) (by rw [List.length_singleton]; show _ * 8 ≤ _; omega) ?_
  intro v18 w15 S16 hk17 hv19
  refine ⟨hk17, ?_⟩
  refine e_done (by kernel_rfl) ?_
  refine l_x rfl (x_nilCheck rfl) ?_
  refine l_x rfl (x_fieldAddr rfl Tryz.runUnderlying81 rfl Tryz.sizeOf23 (by decide)) ?_
  refine l_storeq (c' := [_, _, _, _, _]) (v := v18) S16 0 rfl rfl rfl rfl (Rd.one (vec_rd (S16.at 4 rfl))) Tryz.sizeOf23 (by first | (simp; done) | exact Nat.le_of_ble_eq_true rfl) rfl ?_
  intro w20 S21 hk22
  refine l_nil ?_
  refine r_inBlock ?_
  refine d_end (rs := []) [] Tryz.func117 rfl trivial ?_
  exact ⟨rfl, { n with iv := v18 }, Own.rollShut (A := []) (s := idleS s a.1.id) (S21.take 7) hok.idle⟩

set_option maxHeartbeats 4000000 in
/-- (*couchant/deed.roll).try. -/
theorem c_try (b : Nat) (n : Nm) (s : St) (a : Rw) (hf : formed a.1 = true) (hk7 : a.1.kind = 1 ∨ a.1.kind = 2 ∨ a.1.kind = 3 ∨ a.1.kind = 4 ∨ a.1.kind = 5 ∨ a.1.kind = 6 ∨ a.1.kind = 7) (hB : StB s) (hil : s.idle.length ≤ 1000) (hnew : ∀ p ∈ s.pledges, p.deed ≠ a.1.id) (hBm : a.1.kind = 3 → 0 < free s a.1.frm a.1.day → ∀ i, StB (movesS a.1.frm (a.1.heirs.take i) ((wholeS (free s a.1.frm a.1.day) a.1.shares).take i) s)) (w0 : World) (hA : SubR 3 w0 a)  (w : World) (S0 : Own (rollS TY b n s).fp w w [rollS TY b n s]) (h0 : Le w0 w) (hX : ∀ c, (rollS TY b n s).fp c → w0.heap.size ≤ c) :
    Cl Tryz.prog 101 #[.pointer (some ⟨b, 0, none⟩), .agg (encD a).toArray] w fun _ w' => ∃ n', Own (rollS TY b n s).fp w w' [rollS TY b n' (try1 s a.1)] := by
  refine fn_of_run (args := [_, _]) 12 Tryz.func101 rfl rfl rfl fun cs => ?_
  have S := S0
  refine r_seq ?_
  refine r_region ?_
  refine l_box S rfl rfl ?_
  intro b4 w1 S2 hl3
  refine l_box S2 rfl rfl ?_
  intro b8 w5 S6 hl7
  refine l_nil ?_
  refine r_seq ?_
  refine r_region ?_
  refine l_x rfl (x_func rfl rfl) ?_
  refine l_defer [] [_, _] [] rfl rfl rfl rfl ?_
  refine l_nil ?_
  rcases hk7 with hk | hk | hk | hk | hk | hk | hk
  · skip
    refine r_drawR 6 Tryz.mixed (by kernel_rfl) ?_
    refine wd_call [] [] [] rfl rfl Tryz.call118 rfl (fun w1 h1 => c_kinds _) ?_
    refine w_x rfl (fun w1 h1 => x_fieldAddr rfl Tryz.runUnderlying45 rfl Tryz.sizeOf5 (by decide)) ?_
    refine w_x rfl (fun w1 h1 => x_load rfl (ld_blk ((S6.step h1).blk 2 rfl) Tryz.isAgg5 rfl)) ?_
    refine w_x rfl (fun w1 h1 => x_part rfl rfl Tryz.runUnderlying158 Tryz.sizeOf157 Tryz.isAgg157 (by omega) (show _ = some (Value.func (.func 132) #[] #[]) from by rw [hk] <;> rfl)) ?_
    refine w_x rfl (fun w1 h1 => x_load rfl (ld_blk ((S6.step h1).blk 1 rfl) Tryz.isAgg82 rfl)) ?_
    refine w_x rfl (fun w1 h1 => x_load rfl (ld_blks ((S6.step h1).blk 2 rfl) Tryz.isAgg45 Tryz.sizeOf45 rfl rfl)) ?_
    refine w_nil ?_
    intro w9 hl10
    have S11 := S6.step hl10
    refine l_call [] [] [_, _] rfl rfl Tryz.call132 rfl (c_enter b n s a hf hB hk _ (S11.lend 0 rfl)) ?_
    rintro _ w12 ⟨n', s', hdo, hb14⟩
    have S13 := S11.back 0 rfl hb14
    refine l_nil ?_
    refine r_endU rfl ?_
    refine leave_defer rfl Tryz.call117 (by intro h; cases h) ?_
    change Dl _ _ #[.pointer (some ⟨b4, 0, none⟩), .pointer (some ⟨b8, 0, none⟩)] _ _ _
    refine (c_try0 _ _ _).mono ?_
    rintro _ wl ⟨rfl, hll⟩
    have Sl := S13.step hll
    refine leaveU_done (rs := []) [] Tryz.func101 rfl trivial ?_
    exact ⟨n', by rw [try_some hdo]; exact Sl.take 1⟩
  · skip
    refine r_drawR 6 Tryz.mixed (by kernel_rfl) ?_
    refine wd_call [] [] [] rfl rfl Tryz.call118 rfl (fun w1 h1 => c_kinds _) ?_
    refine w_x rfl (fun w1 h1 => x_fieldAddr rfl Tryz.runUnderlying45 rfl Tryz.sizeOf5 (by decide)) ?_
    refine w_x rfl (fun w1 h1 => x_load rfl (ld_blk ((S6.step h1).blk 2 rfl) Tryz.isAgg5 rfl)) ?_
    refine w_x rfl (fun w1 h1 => x_part rfl rfl Tryz.runUnderlying158 Tryz.sizeOf157 Tryz.isAgg157 (by omega) (show _ = some (Value.func (.func 133) #[] #[]) from by rw [hk] <;> rfl)) ?_
    refine w_x rfl (fun w1 h1 => x_load rfl (ld_blk ((S6.step h1).blk 1 rfl) Tryz.isAgg82 rfl)) ?_
    refine w_x rfl (fun w1 h1 => x_load rfl (ld_blks ((S6.step h1).blk 2 rfl) Tryz.isAgg45 Tryz.sizeOf45 rfl rfl)) ?_
    refine w_nil ?_
    intro w15 hl16
    have S17 := S6.step hl16
    refine l_callP [] [] [_, _] rfl rfl Tryz.call133 rfl (c_grant b n s a hf hB hk _ (S17.lend 0 rfl)) ?_ ?_
    · skip
      rintro _ w18 ⟨n', s', hdo, hb20⟩
      have S19 := S17.back 0 rfl hb20
      refine l_nil ?_
      refine r_endU rfl ?_
      refine leave_defer rfl Tryz.call117 (by intro h; cases h) ?_
      change Dl _ _ #[.pointer (some ⟨b4, 0, none⟩), .pointer (some ⟨b8, 0, none⟩)] _ _ _
      refine (c_try0 _ _ _).mono ?_
      rintro _ wl ⟨rfl, hll⟩
      have Sl := S19.step hll
      refine leaveU_done (rs := []) [] Tryz.func101 rfl trivial ?_
      exact ⟨n', by rw [try_some hdo]; exact Sl.take 1⟩
    rintro _ w21 k ⟨rfl, hdo, n', hb23⟩
    have S22 := S17.back 0 rfl hb23
    refine leave_defer rfl Tryz.call117 (by intro h; cases h) ?_
    change Dl _ _ #[.pointer (some ⟨b4, 0, none⟩), .pointer (some ⟨b8, 0, none⟩)] _ _ _
    refine (c_try1 b n' s a _ _ hil (fun hq => S22.dj 0 1 _ _ rfl rfl (by decide) _ hq rfl) (fun hq => S22.dj 0 2 _ _ rfl rfl (by decide) _ hq rfl) _ (S22.blk 1 rfl) (S22.blk 2 rfl) (S22.lend 0 rfl)).mono ?_
    rintro _ wl ⟨rfl, n2, hl2⟩
    have Sl := S22.back 0 rfl hl2
    refine leaveU_done (rs := []) [] Tryz.func101 rfl trivial ?_
    exact ⟨n2, by rw [try_none hdo]; exact Sl.take 1⟩
  · skip
    refine r_drawR 6 Tryz.mixed (by kernel_rfl) ?_
    refine wd_call [] [] [] rfl rfl Tryz.call118 rfl (fun w1 h1 => c_kinds _) ?_
    refine w_x rfl (fun w1 h1 => x_fieldAddr rfl Tryz.runUnderlying45 rfl Tryz.sizeOf5 (by decide)) ?_
    refine w_x rfl (fun w1 h1 => x_load rfl (ld_blk ((S6.step h1).blk 2 rfl) Tryz.isAgg5 rfl)) ?_
    refine w_x rfl (fun w1 h1 => x_part rfl rfl Tryz.runUnderlying158 Tryz.sizeOf157 Tryz.isAgg157 (by omega) (show _ = some (Value.func (.func 134) #[] #[]) from by rw [hk] <;> rfl)) ?_
    refine w_x rfl (fun w1 h1 => x_load rfl (ld_blk ((S6.step h1).blk 1 rfl) Tryz.isAgg82 rfl)) ?_
    refine w_x rfl (fun w1 h1 => x_load rfl (ld_blks ((S6.step h1).blk 2 rfl) Tryz.isAgg45 Tryz.sizeOf45 rfl rfl)) ?_
    refine w_nil ?_
    intro w24 hl25
    have S26 := S6.step hl25
    refine l_callP [] [] [_, _] rfl rfl Tryz.call134 rfl (c_inherit b n s a hf hB hk (hBm hk) w0 hA _ (S26.lend 0 rfl) (S26.old h0 hX) hX) ?_ ?_
    · skip
      rintro _ w27 ⟨n', s', hdo, hb29⟩
      have S28 := S26.back 0 rfl hb29
      refine l_nil ?_
      refine r_endU rfl ?_
      refine leave_defer rfl Tryz.call117 (by intro h; cases h) ?_
      change Dl _ _ #[.pointer (some ⟨b4, 0, none⟩), .pointer (some ⟨b8, 0, none⟩)] _ _ _
      refine (c_try0 _ _ _).mono ?_
      rintro _ wl ⟨rfl, hll⟩
      have Sl := S28.step hll
      refine leaveU_done (rs := []) [] Tryz.func101 rfl trivial ?_
      exact ⟨n', by rw [try_some hdo]; exact Sl.take 1⟩
    rintro _ w30 k ⟨rfl, hdo, n', hb32⟩
    have S31 := S26.back 0 rfl hb32
    refine leave_defer rfl Tryz.call117 (by intro h; cases h) ?_
    change Dl _ _ #[.pointer (some ⟨b4, 0, none⟩), .pointer (some ⟨b8, 0, none⟩)] _ _ _
    refine (c_try1 b n' s a _ _ hil (fun hq => S31.dj 0 1 _ _ rfl rfl (by decide) _ hq rfl) (fun hq => S31.dj 0 2 _ _ rfl rfl (by decide) _ hq rfl) _ (S31.blk 1 rfl) (S31.blk 2 rfl) (S31.lend 0 rfl)).mono ?_
    rintro _ wl ⟨rfl, n2, hl2⟩
    have Sl := S31.back 0 rfl hl2
    refine leaveU_done (rs := []) [] Tryz.func101 rfl trivial ?_
    exact ⟨n2, by rw [try_none hdo]; exact Sl.take 1⟩
  · skip
    refine r_drawR 6 Tryz.mixed (by kernel_rfl) ?_
    refine wd_call [] [] [] rfl rfl Tryz.call118 rfl (fun w1 h1 => c_kinds _) ?_
    refine w_x rfl (fun w1 h1 => x_fieldAddr rfl Tryz.runUnderlying45 rfl Tryz.sizeOf5 (by decide)) ?_
    refine w_x rfl (fun w1 h1 => x_load rfl (ld_blk ((S6.step h1).blk 2 rfl) Tryz.isAgg5 rfl)) ?_
    refine w_x rfl (fun w1 h1 => x_part rfl rfl Tryz.runUnderlying158 Tryz.sizeOf157 Tryz.isAgg157 (by omega) (show _ = some (Value.func (.func 135) #[] #[]) from by rw [hk] <;> rfl)) ?_
    refine w_x rfl (fun w1 h1 => x_load rfl (ld_blk ((S6.step h1).blk 1 rfl) Tryz.isAgg82 rfl)) ?_
    refine w_x rfl (fun w1 h1 => x_load rfl (ld_blks ((S6.step h1).blk 2 rfl) Tryz.isAgg45 Tryz.sizeOf45 rfl rfl)) ?_
    refine w_nil ?_
    intro w33 hl34
    have S35 := S6.step hl34
    refine l_callP [] [] [_, _] rfl rfl Tryz.call135 rfl (c_lease b n s a hf hB hk _ (S35.lend 0 rfl)) ?_ ?_
    · skip
      rintro _ w36 ⟨n', s', hdo, hb38⟩
      have S37 := S35.back 0 rfl hb38
      refine l_nil ?_
      refine r_endU rfl ?_
      refine leave_defer rfl Tryz.call117 (by intro h; cases h) ?_
      change Dl _ _ #[.pointer (some ⟨b4, 0, none⟩), .pointer (some ⟨b8, 0, none⟩)] _ _ _
      refine (c_try0 _ _ _).mono ?_
      rintro _ wl ⟨rfl, hll⟩
      have Sl := S37.step hll
      refine leaveU_done (rs := []) [] Tryz.func101 rfl trivial ?_
      exact ⟨n', by rw [try_some hdo]; exact Sl.take 1⟩
    rintro _ w39 k ⟨rfl, hdo, n', hb41⟩
    have S40 := S35.back 0 rfl hb41
    refine leave_defer rfl Tryz.call117 (by intro h; cases h) ?_
    change Dl _ _ #[.pointer (some ⟨b4, 0, none⟩), .pointer (some ⟨b8, 0, none⟩)] _ _ _
    refine (c_try1 b n' s a _ _ hil (fun hq => S40.dj 0 1 _ _ rfl rfl (by decide) _ hq rfl) (fun hq => S40.dj 0 2 _ _ rfl rfl (by decide) _ hq rfl) _ (S40.blk 1 rfl) (S40.blk 2 rfl) (S40.lend 0 rfl)).mono ?_
    rintro _ wl ⟨rfl, n2, hl2⟩
    have Sl := S40.back 0 rfl hl2
    refine leaveU_done (rs := []) [] Tryz.func101 rfl trivial ?_
    exact ⟨n2, by rw [try_none hdo]; exact Sl.take 1⟩
  · skip
    refine r_drawR 6 Tryz.mixed (by kernel_rfl) ?_
    refine wd_call [] [] [] rfl rfl Tryz.call118 rfl (fun w1 h1 => c_kinds _) ?_
    refine w_x rfl (fun w1 h1 => x_fieldAddr rfl Tryz.runUnderlying45 rfl Tryz.sizeOf5 (by decide)) ?_
    refine w_x rfl (fun w1 h1 => x_load rfl (ld_blk ((S6.step h1).blk 2 rfl) Tryz.isAgg5 rfl)) ?_
    refine w_x rfl (fun w1 h1 => x_part rfl rfl Tryz.runUnderlying158 Tryz.sizeOf157 Tryz.isAgg157 (by omega) (show _ = some (Value.func (.func 136) #[] #[]) from by rw [hk] <;> rfl)) ?_
    refine w_x rfl (fun w1 h1 => x_load rfl (ld_blk ((S6.step h1).blk 1 rfl) Tryz.isAgg82 rfl)) ?_
    refine w_x rfl (fun w1 h1 => x_load rfl (ld_blks ((S6.step h1).blk 2 rfl) Tryz.isAgg45 Tryz.sizeOf45 rfl rfl)) ?_
    refine w_nil ?_
    intro w42 hl43
    have S44 := S6.step hl43
    refine l_callP [] [] [_, _] rfl rfl Tryz.call136 rfl (c_pledge b n s a hf hB hk hnew _ (S44.lend 0 rfl)) ?_ ?_
    · skip
      rintro _ w45 ⟨n', s', hdo, hb47⟩
      have S46 := S44.back 0 rfl hb47
      refine l_nil ?_
      refine r_endU rfl ?_
      refine leave_defer rfl Tryz.call117 (by intro h; cases h) ?_
      change Dl _ _ #[.pointer (some ⟨b4, 0, none⟩), .pointer (some ⟨b8, 0, none⟩)] _ _ _
      refine (c_try0 _ _ _).mono ?_
      rintro _ wl ⟨rfl, hll⟩
      have Sl := S46.step hll
      refine leaveU_done (rs := []) [] Tryz.func101 rfl trivial ?_
      exact ⟨n', by rw [try_some hdo]; exact Sl.take 1⟩
    rintro _ w48 k ⟨rfl, hdo, n', hb50⟩
    have S49 := S44.back 0 rfl hb50
    refine leave_defer rfl Tryz.call117 (by intro h; cases h) ?_
    change Dl _ _ #[.pointer (some ⟨b4, 0, none⟩), .pointer (some ⟨b8, 0, none⟩)] _ _ _
    refine (c_try1 b n' s a _ _ hil (fun hq => S49.dj 0 1 _ _ rfl rfl (by decide) _ hq rfl) (fun hq => S49.dj 0 2 _ _ rfl rfl (by decide) _ hq rfl) _ (S49.blk 1 rfl) (S49.blk 2 rfl) (S49.lend 0 rfl)).mono ?_
    rintro _ wl ⟨rfl, n2, hl2⟩
    have Sl := S49.back 0 rfl hl2
    refine leaveU_done (rs := []) [] Tryz.func101 rfl trivial ?_
    exact ⟨n2, by rw [try_none hdo]; exact Sl.take 1⟩
  · skip
    refine r_drawR 6 Tryz.mixed (by kernel_rfl) ?_
    refine wd_call [] [] [] rfl rfl Tryz.call118 rfl (fun w1 h1 => c_kinds _) ?_
    refine w_x rfl (fun w1 h1 => x_fieldAddr rfl Tryz.runUnderlying45 rfl Tryz.sizeOf5 (by decide)) ?_
    refine w_x rfl (fun w1 h1 => x_load rfl (ld_blk ((S6.step h1).blk 2 rfl) Tryz.isAgg5 rfl)) ?_
    refine w_x rfl (fun w1 h1 => x_part rfl rfl Tryz.runUnderlying158 Tryz.sizeOf157 Tryz.isAgg157 (by omega) (show _ = some (Value.func (.func 137) #[] #[]) from by rw [hk] <;> rfl)) ?_
    refine w_x rfl (fun w1 h1 => x_load rfl (ld_blk ((S6.step h1).blk 1 rfl) Tryz.isAgg82 rfl)) ?_
    refine w_x rfl (fun w1 h1 => x_load rfl (ld_blks ((S6.step h1).blk 2 rfl) Tryz.isAgg45 Tryz.sizeOf45 rfl rfl)) ?_
    refine w_nil ?_
    intro w51 hl52
    have S53 := S6.step hl52
    refine l_callP [] [] [_, _] rfl rfl Tryz.call137 rfl (c_redeem b n s a hf hB hk _ (S53.lend 0 rfl)) ?_ ?_
    · skip
      rintro _ w54 ⟨n', s', hdo, hb56⟩
      have S55 := S53.back 0 rfl hb56
      refine l_nil ?_
      refine r_endU rfl ?_
      refine leave_defer rfl Tryz.call117 (by intro h; cases h) ?_
      change Dl _ _ #[.pointer (some ⟨b4, 0, none⟩), .pointer (some ⟨b8, 0, none⟩)] _ _ _
      refine (c_try0 _ _ _).mono ?_
      rintro _ wl ⟨rfl, hll⟩
      have Sl := S55.step hll
      refine leaveU_done (rs := []) [] Tryz.func101 rfl trivial ?_
      exact ⟨n', by rw [try_some hdo]; exact Sl.take 1⟩
    rintro _ w57 k ⟨rfl, hdo, n', hb59⟩
    have S58 := S53.back 0 rfl hb59
    refine leave_defer rfl Tryz.call117 (by intro h; cases h) ?_
    change Dl _ _ #[.pointer (some ⟨b4, 0, none⟩), .pointer (some ⟨b8, 0, none⟩)] _ _ _
    refine (c_try1 b n' s a _ _ hil (fun hq => S58.dj 0 1 _ _ rfl rfl (by decide) _ hq rfl) (fun hq => S58.dj 0 2 _ _ rfl rfl (by decide) _ hq rfl) _ (S58.blk 1 rfl) (S58.blk 2 rfl) (S58.lend 0 rfl)).mono ?_
    rintro _ wl ⟨rfl, n2, hl2⟩
    have Sl := S58.back 0 rfl hl2
    refine leaveU_done (rs := []) [] Tryz.func101 rfl trivial ?_
    exact ⟨n2, by rw [try_none hdo]; exact Sl.take 1⟩
  refine r_drawR 6 Tryz.mixed (by kernel_rfl) ?_
  refine wd_call [] [] [] rfl rfl Tryz.call118 rfl (fun w1 h1 => c_kinds _) ?_
  refine w_x rfl (fun w1 h1 => x_fieldAddr rfl Tryz.runUnderlying45 rfl Tryz.sizeOf5 (by decide)) ?_
  refine w_x rfl (fun w1 h1 => x_load rfl (ld_blk ((S6.step h1).blk 2 rfl) Tryz.isAgg5 rfl)) ?_
  refine w_x rfl (fun w1 h1 => x_part rfl rfl Tryz.runUnderlying158 Tryz.sizeOf157 Tryz.isAgg157 (by omega) (show _ = some (Value.func (.func 138) #[] #[]) from by rw [hk] <;> rfl)) ?_
  refine w_x rfl (fun w1 h1 => x_load rfl (ld_blk ((S6.step h1).blk 1 rfl) Tryz.isAgg82 rfl)) ?_
  refine w_x rfl (fun w1 h1 => x_load rfl (ld_blks ((S6.step h1).blk 2 rfl) Tryz.isAgg45 Tryz.sizeOf45 rfl rfl)) ?_
  refine w_nil ?_
  intro w60 hl61
  have S62 := S6.step hl61
  refine l_callP [] [] [_, _] rfl rfl Tryz.call138 rfl (c_seize b n s a hf hB hk _ (S62.lend 0 rfl)) ?_ ?_
  · skip
    rintro _ w63 ⟨n', s', hdo, hb65⟩
    have S64 := S62.back 0 rfl hb65
    refine l_nil ?_
    refine r_endU rfl ?_
    refine leave_defer rfl Tryz.call117 (by intro h; cases h) ?_
    change Dl _ _ #[.pointer (some ⟨b4, 0, none⟩), .pointer (some ⟨b8, 0, none⟩)] _ _ _
    refine (c_try0 _ _ _).mono ?_
    rintro _ wl ⟨rfl, hll⟩
    have Sl := S64.step hll
    refine leaveU_done (rs := []) [] Tryz.func101 rfl trivial ?_
    exact ⟨n', by rw [try_some hdo]; exact Sl.take 1⟩
  rintro _ w66 k ⟨rfl, hdo, n', hb68⟩
  have S67 := S62.back 0 rfl hb68
  refine leave_defer rfl Tryz.call117 (by intro h; cases h) ?_
  change Dl _ _ #[.pointer (some ⟨b4, 0, none⟩), .pointer (some ⟨b8, 0, none⟩)] _ _ _
  refine (c_try1 b n' s a _ _ hil (fun hq => S67.dj 0 1 _ _ rfl rfl (by decide) _ hq rfl) (fun hq => S67.dj 0 2 _ _ rfl rfl (by decide) _ hq rfl) _ (S67.blk 1 rfl) (S67.blk 2 rfl) (S67.lend 0 rfl)).mono ?_
  rintro _ wl ⟨rfl, n2, hl2⟩
  have Sl := S67.back 0 rfl hl2
  refine leaveU_done (rs := []) [] Tryz.func101 rfl trivial ?_
  exact ⟨n2, by rw [try_none hdo]; exact Sl.take 1⟩

end Go.Proofs

/-
  Contracts of functions of the program: each by symbolic execution of its text.
-/
namespace Go.Proofs
open Go Go.Vk Go.Vk.Flow

open Go.Vk.Deed
/-- The deeds of a list that are dated up to a day. -/
def untl (day : Int) (rs : List Rw) : List Rw := rs.filter fun a => decide (a.1.day ≤ day)
theorem untl_take {rs : List Rw} {day : Int} {i : Nat} {a : Rw} (h : rs[i]? = some a) : untl day (rs.take (i + 1)) = untl day (rs.take i) ++ if a.1.day ≤ day then [a] else [] := by
  rw [take_snoc rs i (List.getElem?_eq_some_iff.1 h).1, (List.getElem?_eq_some_iff.1 h).2, untl, List.filter_append]
  by_cases hd : a.1.day ≤ day <;> simp [untl, hd]
theorem untl_split (rs : List Rw) (day : Int) (i : Nat) : untl day rs = untl day (rs.take i) ++ untl day (rs.drop i) := by
  unfold untl; rw [← List.filter_append, List.take_append_drop]
theorem untl_dl (rs : List Rw) (day : Int) : dl (untl day rs) = (dl rs).filter fun x => decide (x.day ≤ day) := by
  unfold dl untl; rw [List.filter_map]; rfl
theorem untl_mem {rs : List Rw} {day : Int} {a : Rw} (h : a ∈ untl day rs) : a ∈ rs := (List.mem_filter.1 h).1

set_option maxHeartbeats 2000000 in
/-- couchant/deed.until$1. -/
theorem c_until1 (rs : List Rw) (vl : Value) (day : Int) (b1 b2 yl : Nat) (X : Nat → Prop) (u : World) (hD : ∀ wz, Keep X u wz → DsR 45 3 wz vl rs) (R : List Rw → Rsc → Prop)
    (hy : ∀ t r a w1, R t r → (∃ s, untl day rs = t ++ a :: s) → Keep X u w1 → Own r.fp w1 w1 [r] → Yl Tryz.prog yl [.agg (encD a).toArray].toArray w1 fun v w2 => ∃ r', v = .bool true ∧ R (t ++ [a]) r' ∧ Own r.fp w1 w2 [r']) (r : Rsc) (hr : R [] r) (w : World) (S : Own X u w [blk b1 [vl] 22, blk b2 [.int .i64 day] 3, r]) :
    Cl Tryz.prog 116 #[.func (.yield yl) #[] #[], .pointer (some ⟨b1, 0, none⟩), .pointer (some ⟨b2, 0, none⟩)] w fun _ w' => ∃ r', R (untl day rs) r' ∧ Own X u w' [blk b1 [vl] 22, blk b2 [.int .i64 day] 3, r'] := by
  have hml := (hD _ S.keep).lm
  refine fn_of_run (args := [_, _, _]) 23 Tryz.func116 rfl rfl rfl fun cs => ?_
  refine r_seq ?_
  refine r_region ?_
  refine l_x rfl (x_load rfl (ld_blk (S.blk 0 rfl) Tryz.isAgg22 rfl)) ?_
  refine l_x rfl (x_len (hD _ S.keep).rd rfl Tryz.runUnderlying22) ?_
  refine l_x rfl (x_mv rfl) ?_
  refine l_nil ?_
  refine r_block ?_
  refine r_loop (G := Nat × Rsc) (fun ⟨i, r1⟩ => rs.length - i) (fun ⟨i, r1⟩ => [(0, .func (.yield yl) #[] #[]), (1, .pointer (some ⟨b1, 0, none⟩)), (2, .pointer (some ⟨b2, 0, none⟩)), (6, vl), (8, .int .i64 i), (7, .int .i64 rs.length)]) (fun ⟨i, r1⟩ w' => (i ≤ rs.length) ∧ (R (untl day (rs.take i)) r1) ∧ Own X u w' [blk b1 [vl] 22, blk b2 [.int .i64 day] 3, r1]) (0, r) ⟨rfl, rfl, rfl, rfl, rfl, rfl, trivial⟩ ⟨Nat.zero_le _, by simpa [untl] using hr, (S.take 3)⟩ ?_
  rintro ⟨i, r1⟩ ρ w1 ⟨hi, hR, S1⟩ IH
  refine r_seq ?_
  refine r_region ?_
  refine l_x rfl (x_lss rfl rfl) ?_
  refine l_nil ?_
  refine r_seq ?_
  refine r_ifd rfl (fun hc9 => ?_) (fun hc9 => ?_)
  · skip
    obtain ⟨a, ha⟩ : ∃ a, rs[i]? = some a := ⟨_, List.getElem?_eq_getElem (by omega)⟩
    refine r_skip ?_
    refine r_seq ?_
    refine r_block ?_
    refine r_seq ?_
    refine r_region ?_
    refine l_index ED rfl (hD _ S1.keep).rd rfl rfl Tryz.runUnderlying22 Tryz.sizeOf45 (by omega) ha ?_
    intro b1 o2 hat3 row4
    refine l_x rfl (x_load rfl (ld_row Tryz.isAgg45 Tryz.sizeOf45 rfl row4)) ?_
    refine l_alloc S1 rfl Tryz.zeroValue45 rfl ?_
    intro b8 w5 S6 hl7
    refine l_stores (vs := [_, _, _, _, _, _, _, _, _, _, _]) S6 3 rfl rfl rfl rfl (ones_cons rfl (ones_cons rfl (ones_cons rfl (ones_cons rfl (ones_cons rfl (ones_cons rfl (ones_cons rfl (ones_cons rfl (ones_cons rfl (ones_cons (Rd.one ((hD _ S6.keep).sub _ (List.mem_of_getElem? ha)).1) (ones_cons (Rd.one ((hD _ S6.keep).sub _ (List.mem_of_getElem? ha)).2) ones_nil))))))))))) Tryz.sizeOf45 (by first | exact Nat.le_refl _ | simp) (splice_all rfl) ?_
    intro w9 S10 hk11
    refine l_nil ?_
    refine r_seq ?_
    refine r_region ?_
    refine l_x rfl (x_fieldAddr rfl Tryz.runUnderlying45 rfl Tryz.sizeOf3 (by decide)) ?_
    refine l_x rfl (x_load rfl (ld_blk (S10.blk 3 rfl) Tryz.isAgg3 rfl)) ?_
    refine l_x rfl (x_load rfl (ld_blk (S10.blk 1 rfl) Tryz.isAgg3 rfl)) ?_
    refine l_x rfl (x_leq rfl rfl) ?_
    refine l_x rfl (x_mv rfl) ?_
    refine l_splitd (d := 16) rfl (fun hg16 => ?_) (fun hg16 => ?_)
    · skip
      refine l_x rfl (x_mv rfl) ?_
      refine l_x rfl (x_load rfl (ld_blks (S10.blk 3 rfl) Tryz.isAgg45 Tryz.sizeOf45 rfl rfl)) ?_
      refine l_yield [_] rfl rfl rfl (hy (untl day (rs.take i)) r1 a _ hR ⟨_, by rw [untl_split rs day (i + 1), untl_take ha, if_pos (by simpa using hg16), List.append_assoc]; rfl⟩ S10.keep (S10.lend 2 rfl)) ?_
      rintro _ w12 ⟨r15, rfl, hRr15, hback13⟩
      have S14 := S10.back 2 rfl hback13
      refine l_x rfl (x_not rfl) ?_
      refine l_x rfl (x_pick_t rfl rfl) ?_
      refine l_nil ?_
      refine r_false rfl ?_
      refine r_skip ?_
      refine r_inBlock ?_
      refine r_region ?_
      refine l_x rfl (x_add rfl rfl (by omega)) ?_
      refine l_x rfl (x_mv rfl) ?_
      refine l_nil ?_
      exact IH (i + 1, r15) _ _ (by dsimp only; omega) ⟨rfl, rfl, rfl, rfl, rfl, rfl, trivial⟩ ⟨by omega, by rw [untl_take ha, if_pos (by simpa using hg16)]; exact hRr15, (S14.take 3)⟩
    refine l_pass rfl ?_
    refine l_pass rfl ?_
    refine l_pass rfl ?_
    refine l_pass rfl ?_
    refine l_x rfl (x_pick_f rfl rfl) ?_
    refine l_nil ?_
    refine r_false rfl ?_
    refine r_skip ?_
    refine r_inBlock ?_
    refine r_region ?_
    refine l_x rfl (x_add rfl rfl (by omega)) ?_
    refine l_x rfl (x_mv rfl) ?_
    refine l_nil ?_
    exact IH (i + 1, r1) _ _ (by dsimp only; omega) ⟨rfl, rfl, rfl, rfl, rfl, rfl, trivial⟩ ⟨by omega, by rw [untl_take ha, if_neg (by simpa using hg16), List.append_nil]; exact hR, (S10.take 3)⟩
  have hi : i = rs.length := by omega
  subst hi
  rw [List.take_length] at hR
  refine r_exit rfl ?_
  refine r_end (rs := []) [] Tryz.func116 rfl trivial ?_
  exact ⟨_, hR, S1⟩

/-- couchant/deed.until. -/
theorem c_until (rs : List Rw) (vl : Value) (day : Int) (w : World) (hD : DsR 45 3 w vl rs) :
    Cl Tryz.prog 100 #[vl, .int .i64 day] w fun v w' => ∃ b1 b2, v = .func (.func 116) #[] #[.pointer (some ⟨b1, 0, none⟩), .pointer (some ⟨b2, 0, none⟩)] ∧ Own nob w w' [blk b1 [vl] 22, blk b2 [.int .i64 day] 3] := by
  refine fn_of_run (args := [_, _]) 6 Tryz.func100 rfl rfl rfl fun cs => ?_
  have S := Own.start (X := nob) w
  refine r_seq ?_
  refine r_region ?_
  refine l_box S rfl (Rd.cells (hD.rd.le S.le)) ?_
  intro b4 w1 S2 hl3
  refine l_box S2 rfl rfl ?_
  intro b8 w5 S6 hl7
  refine l_x rfl (x_as rfl) ?_
  refine l_nil ?_
  refine r_seq ?_
  refine r_region ?_
  refine l_x rfl (x_func rfl rfl) ?_
  refine l_x rfl (x_as rfl) ?_
  refine l_nil ?_
  refine r_ret (rs := [.tmp 4]) [_] Tryz.func100 rfl ⟨rfl, trivial⟩ ?_
  exact ⟨_, _, rfl, S6⟩

theorem rollok_nil (a b c : Nat) (v v' : Value) : RollOk ⟨a, b, c, v, v', []⟩ St.nil mnil mnil fun _ => mnil :=
  ⟨fun _ => rfl, nofun, fun _ => rfl, fun _ _ => rfl, nofun, fun _ _ _ => rfl, List.nodup_nil⟩

set_option maxHeartbeats 2000000 in
/-- couchant/deed.done. -/
theorem c_done (rs : List Rw) (vl : Value) (day : Int) (hP : PlayL (dl rs)) (w : World) (hD : DsR 45 3 w vl rs) :
    Cl Tryz.prog 69 #[vl, .int .i64 day] w fun v w' => ∃ b n, v = .pointer (some ⟨b, 0, none⟩) ∧ Own nob w w' [rollS TY b n (doneD (dl rs) day)] := by
  have hPl : PlayL (dl (untl day rs)) := by rw [untl_dl]; exact hP.filter _
  refine fn_of_run (args := [_, _]) 20 Tryz.func69 rfl rfl rfl fun cs => ?_
  have S := Own.start (X := nob) w
  refine r_seq ?_
  refine r_region ?_
  refine l_x rfl (x_as rfl) ?_
  refine l_nil ?_
  refine r_seq ?_
  refine r_region ?_
  refine l_makeMap kInt kInt S rfl ?_
  intro m4 w1 S2 hl3
  refine l_makeMap kInt plV S2 rfl ?_
  intro m8 w5 S6 hl7
  refine l_makeMap kInt mV S6 rfl ?_
  intro m12 w9 S10 hl11
  refine l_x rfl (x_buildS (out := [_, _, _, _, _]) (ss := [1, 1, 1, 1, 1]) Tryz.zeroValue81 rfl Tryz.runUnderlying81 ⟨Tryz.sizeOf76, Tryz.sizeOf77, Tryz.sizeOf78, Tryz.sizeOf23, Tryz.sizeOf79, trivial⟩ (fill_cons rfl rfl rfl (Nat.le_of_ble_eq_true rfl) (fill_cons rfl rfl rfl (Nat.le_of_ble_eq_true rfl) (fill_cons rfl rfl rfl (Nat.le_of_ble_eq_true rfl) fill_nil)))) ?_
  refine l_box S10 rfl rfl ?_
  intro b16 w13 S14 hl15
  refine l_alloc S14 rfl Tryz.zeroValue82 rfl ?_
  intro b20 w17 S18 hl19
  refine l_storeq (c' := [_]) S18 4 rfl rfl rfl rfl rfl Tryz.sizeOf82 (by first | (simp; done) | exact Nat.le_of_ble_eq_true rfl) rfl ?_
  intro w21 S22 hk23
  refine l_nil ?_
  refine r_seq ?_
  refine r_seq ?_
  refine r_region ?_
  refine l_x rfl (x_mv rfl) ?_
  refine l_x rfl (x_mv rfl) ?_
  refine l_call [] [] [_, _] rfl rfl Tryz.call100 rfl (c_until rs vl day _ (hD.le S22.le)) ?_
  rintro _ w24 ⟨b27, b28, rfl, h26⟩
  have S25 := S22.join h26
  have Sn := ((Own.nilvec (E := EI) (Own.nilvec (E := ELS) S25)).nopack)
  have S29 := Sn.pick (L' := [_, _, _, _, _, _, _, _, _, _]) [5, 6, 4, 3, 0, 7, 1, 8, 2, 9] (by decide) rfl
  have hok0 : RollOk ⟨m4, m8, m12, (.slice none 0 0), (.slice none 0 0), []⟩ St.nil mnil mnil fun _ => mnil := rollok_nil _ _ _ _ _
  have Sr : Own _ _ _ ([_, _, _] ++ [rollS TY b16 _ St.nil]) := Own.rollShut (A := [_, _, _]) (s := St.nil) S29 hok0
  refine l_nil ?_
  refine r_block ?_
  refine r_rangeFunc [] [_, _] Sr rfl rfl Tryz.call116 ?_
  intro D30 l31 w32 S33 hl34
  have S35 : Own _ _ _ [_, _, _, _, _, _] := S33.pick [0, 1, 2, 3, 4, 5] (by decide) rfl
  have S36 := Own.pack (A := [_, _]) (L := [_, _, _, _]) S35
  refine (c_until1 rs vl day _ _ _ nob w (fun _ hk => hD.le hk) (fun t r => (∃ n1, r = pack [blk b20 [_] 82, rollS TY b16 n1 (play (dl t)), _, _]) ∧ ∀ c, r.fp c → w.heap.size ≤ c) ?_ _ ⟨⟨_, rfl⟩, fun c hc => ((S36).bd 2 _ rfl c hc).2.resolve_right id⟩ _ S36).mono ?_
  · skip
    rintro t _ a w1 ⟨⟨n1, rfl⟩, hfp⟩ ⟨s, hin⟩ hle hS
    have S37 := hS.open
    have hPa : PlayOk (dl t) a.1 := PlayL.at (r := dl s) (by rw [hin] at hPl; simpa [dl] using hPl)
    have ham : a ∈ rs := untl_mem (by rw [hin]; simp)
    refine yl_of_run (S37.obj 3 rfl) rfl (fun c cs => ?_)
    refine r_region ?_
    refine l_alloc S37 rfl Tryz.zeroValue45 rfl ?_
    intro b41 w38 S39 hl40
    refine l_stores (vs := [_, _, _, _, _, _, _, _, _, _, _]) S39 4 rfl rfl rfl rfl (ones_cons rfl (ones_cons rfl (ones_cons rfl (ones_cons rfl (ones_cons rfl (ones_cons rfl (ones_cons rfl (ones_cons rfl (ones_cons rfl (ones_cons (Rd.one ((hD.sub a ham).1.le ((S39.old hle hfp)))) (ones_cons (Rd.one ((hD.sub a ham).2.le ((S39.old hle hfp)))) ones_nil))))))))))) Tryz.sizeOf45 (by first | exact Nat.le_refl _ | simp) (splice_all rfl) ?_
    intro w42 S43 hk44
    refine l_nil ?_
    refine r_beginRound S43 3 rfl rfl ?_
    intro w45 S46 hk47
    refine r_block ?_
    refine r_region ?_
    refine l_x rfl (x_load rfl (ld_blk (S46.blk 0 rfl) Tryz.isAgg82 rfl)) ?_
    refine l_x rfl (x_load rfl (ld_blks (S46.blk 4 rfl) Tryz.isAgg45 Tryz.sizeOf45 rfl rfl)) ?_
    refine l_call [] [] [_, _] rfl rfl Tryz.call101 rfl (c_try _ n1 (play (dl t)) a hPa.f hPa.k hPa.b hPa.il hPa.nw hPa.m w (hD.sub a ham) _ (S46.lend 1 rfl) (S46.old hle hfp) (fun c hc => hfp c ⟨_, List.mem_cons_of_mem _ (List.mem_cons_self ..), hc⟩)) ?_
    rintro _ w48 ⟨n51, hb50⟩
    have S49 := S46.back 1 rfl hb50
    refine l_nil ?_
    refine r_inBlock ?_
    refine r_roundEnd S49 3 rfl ?_
    intro w52 S53
    have hpl : play (dl (t ++ [a])) = try1 (play (dl t)) a.1 := by rw [dl, List.map_append]; exact play_snoc
    have hC := (S53.take 4).close
    exact ⟨_, rfl, ⟨⟨n51, hpl ▸ rfl⟩, fun c hc => (hC.bd 0 _ rfl c hc).2.elim (fun h => Nat.le_trans hle.size h) (hfp c)⟩, hC⟩
  rintro _ w54 ⟨_, ⟨⟨n2, rfl⟩, _⟩, hback55⟩
  have S56 := Own.unpack (A := [_, _]) (L := [_, _, _, _]) hback55
  refine r_endRange S56 5 rfl rfl ?_
  intro w57 S58 hk59
  refine r_inBlock ?_
  refine r_seq ?_
  refine r_region ?_
  refine l_x rfl (x_load rfl (ld_blk (S58.blk 2 rfl) Tryz.isAgg82 rfl)) ?_
  refine l_x rfl (x_as rfl) ?_
  refine l_nil ?_
  refine r_retL rfl ?_
  refine leave_mark S58 4 rfl ?_
  intro w60 S61 hk62
  refine leave_done (rs := [.tmp 4]) [_] Tryz.func69 rfl ⟨rfl, trivial⟩ ?_
  have hE : Own nob w _ [rollS TY _ _ (play (dl (untl day rs)))] := S61.pick [3] (by decide) rfl
  rw [untl_dl] at hE
  exact ⟨_, _, rfl, hE⟩

end Go.Proofs

/-
  Contracts of functions of the program: each by symbolic execution of its text.
-/
namespace Go.Proofs
open Go Go.Vk Go.Vk.Flow

open Go.Vk.Deed
theorem dsr_nil (w : World) : DsR 45 3 w (.slice none 0 0) [] := ⟨vec_rd (.inl ⟨rfl, rfl⟩), by simp, by simp⟩

set_option maxHeartbeats 2000000 in
/-- couchant/deed.on. -/
theorem c_on (rs : List Rw) (vl : Value) (known day : Int) (w : World) (hD : DsR 45 3 w vl rs) :
    Cl Tryz.prog 38 #[vl, .int .i64 known, .int .i64 day] w fun v w' => ∃ b n, v = .pointer (some ⟨b, 0, none⟩) ∧ Own nob w w' [rollS TY b n (onD (dl rs) known day)] := by
  refine fn_of_run (args := [_, _, _]) 17 Tryz.func38 rfl rfl rfl fun cs => ?_
  have S := Own.start (X := nob) w
  refine r_seq ?_
  refine r_region ?_
  refine l_x rfl (x_as rfl) ?_
  refine l_nil ?_
  refine r_seq ?_
  refine r_seq ?_
  refine r_region ?_
  refine l_x rfl (x_mv rfl) ?_
  refine l_call [] [] [_] rfl rfl Tryz.call39 rfl (c_right rs _ _ (hD.le S.le)) ?_
  rintro _ w1 ⟨rfl, hl3⟩
  have S2 := S.step hl3
  refine l_x rfl (x_not rfl) ?_
  refine l_nil ?_
  refine r_if rfl (fun hc9 => ?_) (fun hc9 => ?_)
  · skip
    have hR : rightD (dl rs) = false := by simpa using hc9
    refine r_seq ?_
    refine r_region ?_
    refine l_x rfl (x_mv rfl) ?_
    refine l_call [] [] [_, _] rfl rfl Tryz.call69 rfl (c_done [] (.slice none 0 0) day PlayL.nil _ (dsr_nil _)) ?_
    rintro _ w4 ⟨b7, n8, rfl, h6⟩
    have S5 := S2.join h6
    refine l_x rfl (x_as rfl) ?_
    refine l_nil ?_
    refine r_ret (rs := [.tmp 6]) [_] Tryz.func38 rfl ⟨rfl, trivial⟩ ?_
    exact ⟨_, _, rfl, by rw [onD, hR]; exact S5.pick [0] (by decide) rfl⟩
  have hR : rightD (dl rs) = true := by simpa using hc9
  refine r_skip ?_
  refine r_seq ?_
  refine r_region ?_
  refine l_x rfl (x_mv rfl) ?_
  refine l_x rfl (x_mv rfl) ?_
  refine l_call [] [] [_, _] rfl rfl Tryz.call41 rfl (c_counting rs _ known (right_asc hR) (by have := right_len hR; rw [dl_len] at this; exact this) _ (hD.le S2.le)) ?_
  rintro v149 w9 ⟨rq149, hq149, hm149, hN149, hl149⟩
  have S10 := S2.add hl149 hN149
  have hlq149 : rq149.length ≤ 400 := by rw [← dl_len, hq149]; exact count_len hR
  have hD2 := hD.mem S10.le (vec_rd (S10.at 0 rfl)) hm149 (by omega)
  have hP2 : PlayL (dl rq149) := by rw [hq149]; exact right_play hR
  have hq2 := hq149
  refine l_x rfl (x_mv rfl) ?_
  refine l_call [] [] [_, _] rfl rfl Tryz.call69 rfl (c_done _ _ day hP2 _ hD2) ?_
  rintro _ w11 ⟨b14, n15, rfl, h13⟩
  have S12 := S10.join h13
  refine l_x rfl (x_as rfl) ?_
  refine l_nil ?_
  refine r_ret (rs := [.tmp 6]) [_] Tryz.func38 rfl ⟨rfl, trivial⟩ ?_
  exact ⟨_, _, rfl, by rw [onD, hR]; rw [← hq2]; exact S12.pick [1] (by decide) rfl⟩

end Go.Proofs

/-
  Contracts of functions of the program: each by symbolic execution of its text.
-/
namespace Go.Proofs
open Go Go.Vk Go.Vk.Flow

open Go.Vk.Deed
theorem on_play (l : List D) (known day : Int) : ∃ t, PlayL t ∧ onD l known day = play t := by
  by_cases h : rightD l = true
  · exact ⟨_, (right_play (known := known) h).filter _, by rw [onD, if_pos h]; rfl⟩
  exact ⟨[], PlayL.nil, by rw [onD, if_neg h]; rfl⟩
theorem on_stb (l : List D) (known day : Int) : StB (onD l known day) := by
  obtain ⟨t, h, e⟩ := on_play l known day
  rw [e]; exact (play_inv _ rfl h).stb h.e h.len
/-- couchant/deed.AccountOf. -/
theorem c_AccountOf (rs : List Rw) (vl : Value) (known : Int) (day o : Int) (w : World) (hD : DsR 45 3 w vl rs) :
    Cl Tryz.prog 22 #[vl, .int .i64 known, .int .i64 day, .int .i64 o] w fun v w' => v = .agg (encAc (accOf (dl rs) known day o)).toArray ∧ Le w w' := by
  have hB := on_stb (dl rs) known day
  refine fn_of_run (args := [_, _, _, _]) 26 Tryz.func22 rfl rfl rfl fun cs => ?_
  have S := Own.start (X := nob) w
  refine r_seq ?_
  refine r_region ?_
  refine l_alloc S rfl Tryz.zeroValue62 rfl ?_
  intro b4 w1 S2 hl3
  refine l_nil ?_
  refine r_seq ?_
  refine r_seq ?_
  refine r_region ?_
  refine l_x rfl (x_mv rfl) ?_
  refine l_buildSlice EI [o] S2 rfl Tryz.runUnderlying23 Tryz.sizeOf3 Tryz.zeroValue3 rfl ⟨rfl, rfl, trivial⟩ (Nat.le_of_ble_eq_true rfl) ?_
  intro v8 w5 S6 hl7
  refine l_call [] [] [_] rfl rfl Tryz.call42 rfl (c_owned _ _ (by first | omega | exact Nat.le_of_ble_eq_true rfl) _ (vec_rd (S6.at 1 rfl))) ?_
  rintro _ w9 ⟨rfl, hl11⟩
  have S10 := S6.step hl11
  refine l_x rfl (x_not rfl) ?_
  refine l_x rfl (x_mv rfl) ?_
  refine l_split (d := 13) rfl (fun hg13 => ?_) (fun hg13 => ?_)
  · skip
    refine l_pass rfl ?_
    refine l_pass rfl ?_
    refine l_pass rfl ?_
    refine l_x rfl (x_pick_t rfl rfl) ?_
    refine l_nil ?_
    refine r_true rfl ?_
    refine r_seq ?_
    refine r_region ?_
    refine l_x rfl (x_buildS (out := [_, _, _, _, _]) (ss := [1, 1, 1, 1, 1]) Tryz.zeroValue62 rfl Tryz.runUnderlying62 ⟨Tryz.sizeOf3, Tryz.sizeOf3, Tryz.sizeOf3, Tryz.sizeOf3, Tryz.sizeOf3, trivial⟩ fill_nil) ?_
    refine l_stores (vs := [_, _, _, _, _]) S10 0 rfl rfl rfl rfl (ones_cons rfl (ones_cons rfl (ones_cons rfl (ones_cons rfl (ones_cons rfl ones_nil))))) Tryz.sizeOf62 (by first | exact Nat.le_refl _ | simp) (splice_all rfl) ?_
    intro w12 S13 hk14
    refine l_nil ?_
    refine r_ret (rs := [.cell 8 62]) [_] Tryz.func22 rfl ⟨⟨_, rfl, (ld_blks (S13.blk 0 rfl) Tryz.isAgg62 Tryz.sizeOf62 rfl rfl)⟩, trivial⟩ ?_
    exact ⟨by rw [accOf, if_neg (by simp_all)]; rfl, S13.le⟩
  refine l_x rfl (x_mv rfl) ?_
  refine l_call [] [] [_] rfl rfl Tryz.call39 rfl (c_right rs _ _ (hD.le S10.le)) ?_
  rintro _ w15 ⟨rfl, hl17⟩
  have S16 := S10.step hl17
  refine l_x rfl (x_not rfl) ?_
  refine l_x rfl (x_pick_f rfl rfl) ?_
  refine l_nil ?_
  refine r_if rfl (fun hc17 => ?_) (fun hc17 => ?_)
  · skip
    refine r_seq ?_
    refine r_region ?_
    refine l_x rfl (x_buildS (out := [_, _, _, _, _]) (ss := [1, 1, 1, 1, 1]) Tryz.zeroValue62 rfl Tryz.runUnderlying62 ⟨Tryz.sizeOf3, Tryz.sizeOf3, Tryz.sizeOf3, Tryz.sizeOf3, Tryz.sizeOf3, trivial⟩ fill_nil) ?_
    refine l_stores (vs := [_, _, _, _, _]) S16 0 rfl rfl rfl rfl (ones_cons rfl (ones_cons rfl (ones_cons rfl (ones_cons rfl (ones_cons rfl ones_nil))))) Tryz.sizeOf62 (by first | exact Nat.le_refl _ | simp) (splice_all rfl) ?_
    intro w18 S19 hk20
    refine l_nil ?_
    refine r_ret (rs := [.cell 8 62]) [_] Tryz.func22 rfl ⟨⟨_, rfl, (ld_blks (S19.blk 0 rfl) Tryz.isAgg62 Tryz.sizeOf62 rfl rfl)⟩, trivial⟩ ?_
    exact ⟨by rw [accOf, if_neg (by simp_all)]; rfl, S19.le⟩
  refine r_skip ?_
  refine r_seq ?_
  refine r_region ?_
  refine l_x rfl (x_mv rfl) ?_
  refine l_x rfl (x_mv rfl) ?_
  refine l_x rfl (x_mv rfl) ?_
  refine l_call [] [] [_, _, _] rfl rfl Tryz.call38 rfl (c_on rs vl known day _ (hD.le S16.le)) ?_
  rintro _ w21 ⟨b26, n27, rfl, h25⟩
  have S22 := S16.join h25
  obtain ⟨hs, pf, sf, hok, S23⟩ := Own.rollOpen (A := [_, _]) S22
  have S24 := S23.pack
  refine l_x rfl (x_mv rfl) ?_
  refine l_x rfl (x_mv rfl) ?_
  refine l_call [] [] [_, _, _] rfl rfl Tryz.call56 rfl (c_account _ _ _ hs pf sf _ _ hB _ (RollRO.mk hok (S24.ro 2 rfl))) ?_
  rintro _ w28 ⟨rfl, hl30⟩
  have S29 := S24.step hl30
  refine l_stores (vs := [_, _, _, _, _]) S29 0 rfl rfl rfl rfl (ones_cons rfl (ones_cons rfl (ones_cons rfl (ones_cons rfl (ones_cons rfl ones_nil))))) Tryz.sizeOf62 (by first | exact Nat.le_refl _ | simp) (splice_all rfl) ?_
  intro w31 S32 hk33
  refine l_nil ?_
  refine r_ret (rs := [.cell 8 62]) [_] Tryz.func22 rfl ⟨⟨_, rfl, (ld_blks (S32.blk 0 rfl) Tryz.isAgg62 Tryz.sizeOf62 rfl rfl)⟩, trivial⟩ ?_
  exact ⟨by rw [accOf, if_pos (by simp_all)]; rfl, S32.le⟩

theorem accOf_bd (l : List D) (known day o : Int) : (-2000000000000 ≤ (accOf l known day o).holds ∧ (accOf l known day o).holds ≤ 2000000000000) ∧ (-2000000000000 ≤ (accOf l known day o).out ∧ (accOf l known day o).out ≤ 2000000000000) ∧ (-2000000000000 ≤ (accOf l known day o).inn ∧ (accOf l known day o).inn ≤ 2000000000000) ∧ (-2000000000000 ≤ (accOf l known day o).pledged ∧ (accOf l known day o).pledged ≤ 2000000000000) := by
  have hB := on_stb l known day
  rw [accOf]
  split
  · have h1 := hB.outS (o := o) (day := day)
    have h2 := hB.pledged (o := o)
    have h3 := hB.hb o
    have h4 := hB.inS (o := o) (day := day)
    simp only [acc]; omega
  simp

/-- couchant/deed.Uses. -/
theorem c_Uses (rs : List Rw) (vl : Value) (known : Int) (day o : Int) (w : World) (hD : DsR 45 3 w vl rs) :
    Cl Tryz.prog 8 #[vl, .int .i64 known, .int .i64 day, .int .i64 o] w fun v w' => v = .int .i64 (usesD (dl rs) known day o) ∧ Le w w' := by
  have hbd := accOf_bd (dl rs) known day o
  refine fn_of_run (args := [_, _, _, _]) 23 Tryz.func8 rfl rfl rfl fun cs => ?_
  have S := Own.start (X := nob) w
  refine r_seq ?_
  refine r_region ?_
  refine l_x rfl (x_as rfl) ?_
  refine l_nil ?_
  refine r_seq ?_
  refine r_region ?_
  refine l_x rfl (x_mv rfl) ?_
  refine l_x rfl (x_mv rfl) ?_
  refine l_x rfl (x_mv rfl) ?_
  refine l_x rfl (x_mv rfl) ?_
  refine l_call [] [] [_, _, _, _] rfl rfl Tryz.call22 rfl (c_AccountOf rs vl known day o _ (hD.le S.le)) ?_
  rintro _ w1 ⟨rfl, hl3⟩
  have S2 := S.step hl3
  refine l_alloc S2 rfl Tryz.zeroValue62 rfl ?_
  intro b7 w4 S5 hl6
  refine l_stores (vs := [_, _, _, _, _]) S5 0 rfl rfl rfl rfl (ones_cons rfl (ones_cons rfl (ones_cons rfl (ones_cons rfl (ones_cons rfl ones_nil))))) Tryz.sizeOf62 (by first | exact Nat.le_refl _ | simp) (splice_all rfl) ?_
  intro w8 S9 hk10
  refine l_nil ?_
  refine r_seq ?_
  refine r_region ?_
  refine l_x rfl (x_fieldAddr rfl Tryz.runUnderlying62 rfl Tryz.sizeOf3 (by decide)) ?_
  refine l_x rfl (x_load rfl (ld_blk (S9.blk 0 rfl) Tryz.isAgg3 rfl)) ?_
  refine l_x rfl (x_fieldAddr rfl Tryz.runUnderlying62 rfl Tryz.sizeOf3 (by decide)) ?_
  refine l_x rfl (x_load rfl (ld_blk (S9.blk 0 rfl) Tryz.isAgg3 rfl)) ?_
  refine l_x rfl (x_sub rfl rfl (by omega)) ?_
  refine l_x rfl (x_fieldAddr rfl Tryz.runUnderlying62 rfl Tryz.sizeOf3 (by decide)) ?_
  refine l_x rfl (x_load rfl (ld_blk (S9.blk 0 rfl) Tryz.isAgg3 rfl)) ?_
  refine l_x rfl (x_add rfl rfl (by omega)) ?_
  refine l_x rfl (x_as rfl) ?_
  refine l_nil ?_
  refine r_ret (rs := [.tmp 8]) [_] Tryz.func8 rfl ⟨rfl, trivial⟩ ?_
  exact ⟨rfl, S9.le⟩


end Go.Proofs

/-
  Contracts of functions of the program: each by symbolic execution of its text.
-/
namespace Go.Proofs
open Go Go.Vk Go.Vk.Flow

open Go.Vk.Deed
abbrev lateP (a : Rw) : Bool := decide (a.1.kind ≠ 8 ∧ a.1.day < a.1.known)
end Go.Proofs

/-
  Contracts of functions of the program: each by symbolic execution of its text.
-/
namespace Go.Proofs
open Go Go.Vk Go.Vk.Flow

open Go.Vk.Deed
end Go.Proofs

/-
  Contracts of functions of the program: each by symbolic execution of its text.
-/
namespace Go.Proofs
open Go Go.Vk Go.Vk.Flow

open Go.Vk.Deed
abbrev dayP (day : Int) (x : Ls) : Bool := decide (x.day ≤ day ∧ day ≤ x.stop)
end Go.Proofs

/-
  Contracts of functions of the program: each by symbolic execution of its text.
-/
namespace Go.Proofs
open Go Go.Vk Go.Vk.Flow

open Go.Vk.Deed
end Go.Proofs

/-
  Contracts of functions of the program: each by symbolic execution of its text.
-/
namespace Go.Proofs
open Go Go.Vk Go.Vk.Flow

open Go.Vk.Deed
theorem sum_map_opt (g : Int → Option Int) (l : List Int) : sumI ((l.filterMap fun o => (g o).map fun a => (o, a)).map (·.2)) = sumI (l.map fun o => (g o).getD 0) := by
  induction l with
  | nil => rfl
  | cons x l ih =>
    rw [List.map_cons, sumI_cons, List.filterMap_cons]
    cases h : g x with
    | none => simp [ih]
    | some a => simp [sumI_cons, ih]
theorem owners_nodup : owners.Nodup := by decide +kernel
theorem filterMap_keys (g : Int → Option Int) (l : List Int) (hn : l.Nodup) : ((l.filterMap fun o => (g o).map fun a => (o, a)).map (·.1)).Nodup := by
  have e : (l.filterMap fun o => (g o).map fun a => (o, a)).map (·.1) = l.filter fun o => (g o).isSome := by
    induction l with
    | nil => rfl
    | cons x l ih =>
      rw [List.filterMap_cons, List.filter_cons]
      rw [List.nodup_cons] at hn
      cases h : g x with
      | none => simp [ih hn.2]
      | some a => simp [ih hn.2]
  rw [e]; exact hn.sublist List.filter_sublist
theorem total_of {s : St} {hs : Int → Option Int} (h : ∀ o, (hs o).getD 0 = s.holds o) (hown : ∀ o a, hs o = some a → 1 ≤ o ∧ o ≤ 40) {vis : List (Int × Int)} (hv : Vis hs vis) (hall : ∀ k a, hs k = some a → (k, a) ∈ vis) :
    sumI (vis.map (·.2)) = sumI (owners.map s.holds) := by
  have hM : Vis hs (owners.filterMap fun o => (hs o).map fun a => (o, a)) := ⟨filterMap_keys hs owners owners_nodup, fun p hp => by
    obtain ⟨o, ho, e⟩ := List.mem_filterMap.1 hp
    cases g : hs o with
    | none => rw [g] at e; cases e
    | some a => rw [g] at e; cases e; exact g⟩
  have hMa : ∀ k a, hs k = some a → (k, a) ∈ owners.filterMap fun o => (hs o).map fun a => (o, a) := fun k a g =>
    List.mem_filterMap.2 ⟨k, mem_owners.2 (hown k a g), by rw [g]; rfl⟩
  rw [sumI_perm ((hv.perm hall hM hMa).map (·.2)), sum_map_opt]
  exact congrArg sumI (List.map_congr_left fun o _ => h o)
theorem total_bd {s : St} (hB : StB s) {hs : Int → Option Int} (h : ∀ o, (hs o).getD 0 = s.holds o) (hown : ∀ o a, hs o = some a → 1 ≤ o ∧ o ≤ 40) {vis : List (Int × Int)} (hv : Vis hs vis) :
    0 ≤ sumI (vis.map (·.2)) ∧ sumI (vis.map (·.2)) ≤ 100000000000000 := by
  have hl : vis.length ≤ 40 := by
    have h1 := nodup_le (l := vis.map (·.1)) (m := owners) hv.nd fun x hx => by
      obtain ⟨q, hq, rfl⟩ := List.mem_map.1 hx
      exact mem_owners.2 (hown _ _ (hv.of q hq))
    rw [List.length_map] at h1; exact h1
  have hb : ∀ q ∈ vis, 0 ≤ q.2 ∧ q.2 ≤ 1000000000000 := fun q hq => by
    have h1 := h q.1
    rw [hv.of q hq] at h1
    have := hB.hb q.1
    rw [← h1] at this
    simp only [Option.getD_some] at this; omega
  have key : ∀ l : List (Int × Int), (∀ q ∈ l, 0 ≤ q.2 ∧ q.2 ≤ 1000000000000) → 0 ≤ sumI (l.map (·.2)) ∧ sumI (l.map (·.2)) ≤ 1000000000000 * l.length := by
    intro l
    induction l with
    | nil => intro _; simp [sumI]
    | cons x l ih =>
      intro g
      have h1 := ih fun q hq => g q (List.mem_cons_of_mem _ hq)
      have h2 := g x (List.mem_cons_self ..)
      rw [List.map_cons, sumI_cons, List.length_cons]; omega
  have := key vis hb
  omega
theorem sumI_snoc (l : List Int) (x : Int) : sumI (l ++ [x]) = sumI l + x := by
  rw [sumI_perm (List.perm_append_comm : (l ++ [x]).Perm ([x] ++ l)), List.singleton_append, sumI_cons]; omega

set_option maxHeartbeats 2000000 in
/-- couchant/deed.Total. -/
theorem c_Total (rs : List Rw) (vl : Value) (known : Int) (day : Int) (w : World) (hD : DsR 45 3 w vl rs) :
    Cl Tryz.prog 15 #[vl, .int .i64 known, .int .i64 day] w fun v w' => v = .int .i64 (totalD (dl rs) known day) ∧ Le w w' := by
  have hB := on_stb (dl rs) known day
  refine fn_of_run (args := [_, _, _]) 26 Tryz.func15 rfl rfl rfl fun cs => ?_
  have S := Own.start (X := nob) w
  refine r_seq ?_
  refine r_region ?_
  refine l_x rfl (x_as rfl) ?_
  refine l_nil ?_
  refine r_seq ?_
  refine r_region ?_
  refine l_x rfl (x_as rfl) ?_
  refine l_nil ?_
  refine r_seq ?_
  refine r_seq ?_
  refine r_region ?_
  refine l_x rfl (x_mv rfl) ?_
  refine l_x rfl (x_mv rfl) ?_
  refine l_x rfl (x_mv rfl) ?_
  refine l_call [] [] [_, _, _] rfl rfl Tryz.call38 rfl (c_on rs vl known day _ (hD.le S.le)) ?_
  rintro _ w1 ⟨b7, n8, rfl, h6⟩
  have S2 := S.join h6
  obtain ⟨hs, pf, sf, hok, S3⟩ := Own.rollOpen (A := []) S2
  have S4 := S3.pick (L' := [_, _]) [0, 1] (by decide) rfl
  obtain ⟨es, clock, hm, hM⟩ := S4.at 1 rfl
  have S5 := S4.as 1 rfl (r' := obj n8.h (.map es clock)) hm (fun c h => h)
  refine l_x rfl (x_nilCheck rfl) ?_
  refine l_x rfl (x_fieldAddr rfl Tryz.runUnderlying81 rfl Tryz.sizeOf76 (by decide)) ?_
  refine l_x rfl (x_load rfl (ld_blk (S5.blk 0 rfl) Tryz.isAgg76 rfl)) ?_
  refine l_range kInt kInt S5 rfl Tryz.runUnderlying76 rfl (S5.obj 1 rfl) ?_
  intro it12 w9 S10 hl11
  refine l_nil ?_
  refine r_block ?_
  refine r_loop (G := List (Int × Int)) (fun vis => es.size - vis.length) (fun vis => [(7, .int .i64 (sumI (vis.map (·.2)))), (17, .pointer (some ⟨it12, 0, none⟩))]) (fun vis w' => (Vis hs vis) ∧ Own nob w w' [blk b7 (rollC n8) 81, obj n8.h (.map es clock), itr kInt kInt it12 n8.h es clock vis]) [] ⟨rfl, rfl, trivial⟩ ⟨.nil, (S10.take 3)⟩ ?_
  rintro vis ρ w1 ⟨hV, S1⟩ IH
  have hbd := total_bd hB hok.h hok.own hV
  refine r_seq ?_
  refine r_region ?_
  refine l_next S1 2 rfl rfl keyI (fun _ _ h => by cases h; rfl) hM rfl (S1.obj 1 rfl) (fun hAll => ?_) (fun c a w13 hfc hnew S14 hk15 => ?_)
  · skip
    refine l_x rfl (x_extract rfl rfl) ?_
    refine l_nil ?_
    refine r_seq ?_
    refine r_false rfl ?_
    refine r_exit rfl ?_
    refine r_seq ?_
    refine r_region ?_
    refine l_x rfl (x_mv rfl) ?_
    refine l_x rfl (x_as rfl) ?_
    refine l_nil ?_
    refine r_ret (rs := [.tmp 6]) [_] Tryz.func15 rfl ⟨rfl, trivial⟩ ?_
    exact ⟨congrArg (Value.int .i64) (total_of hok.h hok.own hV hAll), S1.le⟩
  have hlen := itr_len (S14.at 2 rfl)
  rw [List.length_append, List.length_singleton] at hlen
  have hV2 := hV.step hfc hnew
  have hbd2 := total_bd hB hok.h hok.own hV2
  rw [List.map_append, List.map_cons, List.map_nil, sumI_snoc] at hbd2
  dsimp only at hbd2
  refine l_x rfl (x_extract rfl rfl) ?_
  refine l_nil ?_
  refine r_seq ?_
  refine r_true rfl ?_
  refine r_skip ?_
  refine r_block ?_
  refine r_seq ?_
  refine r_region ?_
  refine l_x rfl (x_entry (S14.at 2 rfl) hM (S14.obj 1 rfl) rfl) ?_
  refine l_x rfl (x_extract rfl rfl) ?_
  refine l_x rfl (x_as rfl) ?_
  refine l_nil ?_
  refine r_region ?_
  refine l_x rfl (x_mv rfl) ?_
  refine l_x rfl (x_mv rfl) ?_
  refine l_x rfl (x_add rfl rfl (by omega)) ?_
  refine l_x rfl (x_as rfl) ?_
  refine l_nil ?_
  refine r_inBlock ?_
  exact IH (vis ++ [(c, a)]) _ _ (by rw [List.length_append, List.length_singleton]; omega) ⟨(congrArg (Value.int .i64) (by rw [List.map_append, List.map_cons, List.map_nil, sumI_snoc])), rfl, trivial⟩ ⟨hV2, (S14.take 3)⟩

end Go.Proofs

/-
  Contracts of functions of the program: each by symbolic execution of its text.
-/
namespace Go.Proofs
open Go Go.Vk Go.Vk.Flow

open Go.Vk.Deed
abbrev touP (l : List D) (a b day : Int) (o : Int) : Bool := decide (usesD l a day o ≠ usesD l b day o)
end Go.Proofs

/-
  Contracts of functions of the program: each by symbolic execution of its text.
-/
namespace Go.Proofs
open Go Go.Vk Go.Vk.Flow

open Go.Vk.Deed


end Go.Proofs

/-
  Contracts of functions of the program: each by symbolic execution of its text.
-/
namespace Go.Proofs
open Go Go.Vk Go.Vk.Flow

open Go.Vk.Deed
def two (y : D) (i : Nat) : List Int := ([y.frm, y.to].take i).filter fun x => decide (0 < x)
end Go.Proofs

/-
  Contracts of functions of the program: each by symbolic execution of its text.
-/
namespace Go.Proofs
open Go Go.Vk Go.Vk.Flow

open Go.Vk.Deed


end Go.Proofs

/-
  Contracts of functions of the program: each by symbolic execution of its text.
-/
namespace Go.Proofs
open Go Go.Vk Go.Vk.Flow

open Go.Vk.Deed
/-- What a round of the search reads. -/
structure TkR (rs rq : List Rw) (vl vq : Value) (m ba bm bl bk : Nat) (w : World) : Prop where
  xa : DsR 45 3 w vq rq
  xl : DsR 45 3 w vl rs
  xba : Blk w ba [vq] 22
  xbm : Blk w bm [.map (some m)] 86
  xbl : Blk w bl [vl] 22
  xbk : Blk w bk [.func (.func 43) #[] #[.pointer (some ⟨ba, 0, none⟩), .pointer (some ⟨bm, 0, none⟩), .pointer (some ⟨bl, 0, none⟩), .pointer (some ⟨bk, 0, none⟩)]] 87
/-- The search from a deed on. -/
abbrev TkP (rs rq : List Rw) (vl vq : Value) (m ba bm bl bk : Nat) (N : Nat) : Prop := ∀ (T : List Nat) (i : Nat) (w : World), rq.length - T.length < N → i < rq.length → T.Nodup → (∀ k ∈ T, k < rq.length) → (∀ wz, Keep (· = m) w wz → TkR rs rq vl vq m ba bm bl bk wz) → Own (· = m) w w [mapr kInt Value.bool m (setM ((T).map (idAt (dl rq))))] →
  Cl Tryz.prog 43 #[.int .i64 i, .pointer (some ⟨ba, 0, none⟩), .pointer (some ⟨bm, 0, none⟩), .pointer (some ⟨bl, 0, none⟩), .pointer (some ⟨bk, 0, none⟩)] w fun _ w' => ∃ T', Took (restsB (dl rs) (dl rq)) rq.length T i T' ∧ Own (· = m) w w' [mapr kInt Value.bool m (setM ((T').map (idAt (dl rq))))]
/-- A pledge's deed. -/
def plgB (x y : D) : Bool := decide (x.kind = 6 ∨ x.kind = 7) && decide (y.id = x.of)
end Go.Proofs

/-
  Contracts of functions of the program: each by symbolic execution of its text.
-/
namespace Go.Proofs
open Go Go.Vk Go.Vk.Flow

open Go.Vk.Deed
end Go.Proofs

/-
  Contracts of functions of the program: each by symbolic execution of its text.
-/
namespace Go.Proofs
open Go Go.Vk Go.Vk.Flow

open Go.Vk.Deed Go.Vk.Share

/-- couchant/couchanttop.near. -/
theorem c_near (x y : Fr) (hx : validF x = true) (hy : validF y = true) (hn : (minus x y).num * 5040 < 1 * (minus x y).den ∧ -1 * (minus x y).den < (minus x y).num * 5040) (w : World) :
    Cl Tryz.prog 12 #[.agg (encF x).toArray, .agg (encF y).toArray] w fun v w' => v = .bool true ∧ Le w w' := by
  refine fn_of_run (args := [_, _]) 25 Tryz.func12 rfl rfl rfl fun cs => ?_
  have S := Own.start (X := nob) w
  refine r_seq ?_
  refine r_region ?_
  refine l_box S rfl rfl ?_
  intro b4 w1 S2 hl3
  refine l_box S2 rfl rfl ?_
  intro b8 w5 S6 hl7
  refine l_x rfl (x_as rfl) ?_
  refine l_nil ?_
  refine r_seq ?_
  refine r_region ?_
  refine l_x rfl (x_load rfl (ld_blks (S6.blk 0 rfl) Tryz.isAgg28 Tryz.sizeOf28 rfl rfl)) ?_
  refine l_x rfl (x_load rfl (ld_blks (S6.blk 1 rfl) Tryz.isAgg28 Tryz.sizeOf28 rfl rfl)) ?_
  refine l_call [] [] [_, _] rfl rfl Tryz.call33 rfl (c_Sub x y hx hy _) ?_
  rintro _ w9 (⟨rfl, hok9, hl109⟩ | ⟨rfl, hok9, hl109⟩)
  · skip
    have S10 := S6.step hl109
    refine l_x rfl (x_mv rfl) ?_
    refine l_x rfl (x_extract rfl rfl) ?_
    refine l_x rfl (x_extract rfl rfl) ?_
    refine l_alloc S10 rfl Tryz.zeroValue28 rfl ?_
    intro b14 w11 S12 hl13
    refine l_stores S12 2 rfl rfl rfl rfl (EF.one _) Tryz.sizeOf28 (by first | exact Nat.le_refl _ | simp) (splice_all rfl) ?_
    intro w15 S16 hk17
    refine l_x rfl (x_as rfl) ?_
    refine l_nil ?_
    refine r_seq ?_
    refine r_seq ?_
    refine r_region ?_
    refine l_x rfl (x_mv rfl) ?_
    refine l_x rfl (x_neq rfl rfl) ?_
    refine l_nil ?_
    refine r_ifd rfl (fun hc14 => ?_) (fun hc14 => ?_)
    · exact absurd rfl hc14
    refine r_skip ?_
    refine r_seq ?_
    refine r_region ?_
    refine l_x rfl (x_load rfl (ld_blks (S16.blk 2 rfl) Tryz.isAgg28 Tryz.sizeOf28 rfl rfl)) ?_
    refine l_x rfl (x_buildS (out := [_, _]) (ss := [1, 1]) Tryz.zeroValue28 rfl Tryz.runUnderlying28 ⟨Tryz.sizeOf3, Tryz.sizeOf3, trivial⟩ (fill_cons rfl rfl rfl (Nat.le_of_ble_eq_true rfl) (fill_cons rfl rfl rfl (Nat.le_of_ble_eq_true rfl) fill_nil))) ?_
    refine l_call [] [] [_, _] rfl rfl Tryz.call34 rfl (c_Compare_ (minus x y) ⟨1, 5040⟩ (minus_valid hx hy hok9) (by decide) _) ?_
    rintro _ w18 ⟨rfl, hl20⟩
    have S19 := S16.step hl20
    refine l_x rfl (x_lss rfl rfl) ?_
    refine l_x rfl (x_mv rfl) ?_
    refine l_splitd (d := 19) rfl (fun hg19 => ?_) (fun hg19 => ?_)
    · skip
      refine l_x rfl (x_load rfl (ld_blks (S19.blk 2 rfl) Tryz.isAgg28 Tryz.sizeOf28 rfl rfl)) ?_
      refine l_x rfl (x_buildS (out := [_, _]) (ss := [1, 1]) Tryz.zeroValue28 rfl Tryz.runUnderlying28 ⟨Tryz.sizeOf3, Tryz.sizeOf3, trivial⟩ (fill_cons rfl rfl rfl (Nat.le_of_ble_eq_true rfl) (fill_cons rfl rfl rfl (Nat.le_of_ble_eq_true rfl) fill_nil))) ?_
      refine l_call [] [] [_, _] rfl rfl Tryz.call34 rfl (c_Compare_ (minus x y) ⟨-1, 5040⟩ (minus_valid hx hy hok9) (by decide) _) ?_
      rintro _ w21 ⟨rfl, hl23⟩
      have S22 := S19.step hl23
      refine l_x rfl (x_gtr rfl rfl) ?_
      refine l_x rfl (x_pick_t rfl rfl) ?_
      refine l_x rfl (x_as rfl) ?_
      refine l_nil ?_
      refine r_ret (rs := [.tmp 4]) [_] Tryz.func12 rfl ⟨rfl, trivial⟩ ?_
      exact ⟨congrArg Value.bool (decide_eq_true (cmpF_pos.2 hn.2)), S22.le⟩
    exact absurd (cmpF_neg.2 hn.1) hg19
  have S24 := S6.step hl109
  refine l_x rfl (x_mv rfl) ?_
  refine l_x rfl (x_extract rfl rfl) ?_
  refine l_x rfl (x_extract rfl rfl) ?_
  refine l_alloc S24 rfl Tryz.zeroValue28 rfl ?_
  intro b28 w25 S26 hl27
  refine l_stores S26 2 rfl rfl rfl rfl (EF.one _) Tryz.sizeOf28 (by first | exact Nat.le_refl _ | simp) (splice_all rfl) ?_
  intro w29 S30 hk31
  refine l_x rfl (x_as rfl) ?_
  refine l_nil ?_
  refine r_seq ?_
  refine r_seq ?_
  refine r_region ?_
  refine l_x rfl (x_mv rfl) ?_
  refine l_x rfl (x_neq rfl rfl) ?_
  refine l_nil ?_
  refine r_ifd rfl (fun hc14 => ?_) (fun hc14 => ?_)
  · skip
    refine r_seq ?_
    refine r_region ?_
    refine l_x rfl (x_as rfl) ?_
    refine l_nil ?_
    refine r_ret (rs := [.tmp 4]) [_] Tryz.func12 rfl ⟨rfl, trivial⟩ ?_
    exact ⟨rfl, S30.le⟩
  exact absurd hc14 (by decide)

/-- couchant/couchanttop.deeds. -/
theorem c_deeds (rs : List Rw) (vl : Value) (w : World) (hD : DsR 45 3 w vl rs) :
    Cl Tryz.prog 6 #[vl] w fun v w' => v = .bool (deedsB (dl rs)) ∧ Le w w' := by
  have hml := hD.lm
  refine fn_of_run (args := [_]) 29 Tryz.func6 rfl rfl rfl fun cs => ?_
  have S := Own.start (X := nob) w
  refine r_seq ?_
  refine r_region ?_
  refine l_x rfl (x_as rfl) ?_
  refine l_nil ?_
  refine r_seq ?_
  refine r_seq ?_
  refine r_region ?_
  refine l_x rfl (x_as rfl) ?_
  refine l_nil ?_
  refine r_block ?_
  refine r_loop (G := Nat) (fun i => rs.length - i) (fun i => [(0, vl), (3, .int .i64 i)]) (fun i w' => (i ≤ rs.length) ∧ (∀ x ∈ rs.take i, shortD x.1 = true) ∧ Own nob w w' []) 0 ⟨rfl, rfl, trivial⟩ ⟨Nat.zero_le _, by simp, S⟩ ?_
  rintro i ρ w1 ⟨hi, hp, S1⟩ IH
  refine r_seq ?_
  refine r_seq ?_
  refine r_region ?_
  refine l_x rfl (x_mv rfl) ?_
  refine l_x rfl (x_mv rfl) ?_
  refine l_x rfl (x_len (hD.rd.le S1.le) rfl Tryz.runUnderlying22) ?_
  refine l_x rfl (x_lss rfl rfl) ?_
  refine l_nil ?_
  refine r_ifd rfl (fun hc7 => ?_) (fun hc7 => ?_)
  · skip
    obtain ⟨a, ha⟩ : ∃ a, rs[i]? = some a := ⟨_, List.getElem?_eq_getElem (by omega)⟩
    have ham := List.mem_of_getElem? ha
    refine r_skip ?_
    refine r_seq ?_
    refine r_block ?_
    refine r_seq ?_
    refine r_region ?_
    refine l_x rfl (x_mv rfl) ?_
    refine l_x rfl (x_mv rfl) ?_
    refine l_index ED rfl (hD.rd.le S1.le) rfl rfl Tryz.runUnderlying22 Tryz.sizeOf45 (by omega) ha ?_
    intro b1 o2 hat3 row4
    refine l_x rfl (x_fieldAddr rfl Tryz.runUnderlying45 rfl Tryz.sizeOf23 (by decide)) ?_
    refine l_x rfl (x_load rfl (ld_cell Tryz.isAgg23 (row4 9 _ rfl))) ?_
    refine l_x rfl (x_len ((hD.sub a ham).1.le S1.le) rfl Tryz.runUnderlying23) ?_
    refine l_x rfl (x_gtr rfl rfl) ?_
    refine l_x rfl (x_mv rfl) ?_
    refine l_splitd (d := 17) rfl (fun hg17 => ?_) (fun hg17 => ?_)
    · skip
      refine l_pass rfl ?_
      refine l_pass rfl ?_
      refine l_pass rfl ?_
      refine l_pass rfl ?_
      refine l_pass rfl ?_
      refine l_pass rfl ?_
      refine l_pass rfl ?_
      refine l_x rfl (x_pick_t rfl rfl) ?_
      refine l_nil ?_
      refine r_true rfl ?_
      refine r_seq ?_
      refine r_region ?_
      refine l_x rfl (x_as rfl) ?_
      refine l_nil ?_
      refine r_ret (rs := [.tmp 2]) [_] Tryz.func6 rfl ⟨rfl, trivial⟩ ?_
      exact ⟨congrArg Value.bool (deeds_no ha (by unfold shortD; simp only [Bool.and_eq_false_iff, decide_eq_false_iff_not]; omega)).symm, S1.le⟩
    refine l_x rfl (x_mv rfl) ?_
    refine l_x rfl (x_mv rfl) ?_
    refine l_index ED rfl (hD.rd.le S1.le) rfl rfl Tryz.runUnderlying22 Tryz.sizeOf45 (by omega) ha ?_
    intro b5 o6 hat7 row8
    refine l_x rfl (x_fieldAddr rfl Tryz.runUnderlying45 rfl Tryz.sizeOf23 (by decide)) ?_
    refine l_x rfl (x_load rfl (ld_cell Tryz.isAgg23 (row8 10 _ rfl))) ?_
    refine l_x rfl (x_len ((hD.sub a ham).2.le S1.le) rfl Tryz.runUnderlying23) ?_
    refine l_x rfl (x_gtr rfl rfl) ?_
    refine l_x rfl (x_pick_f rfl rfl) ?_
    refine l_nil ?_
    refine r_ifd rfl (fun hc25 => ?_) (fun hc25 => ?_)
    · skip
      refine r_seq ?_
      refine r_region ?_
      refine l_x rfl (x_as rfl) ?_
      refine l_nil ?_
      refine r_ret (rs := [.tmp 2]) [_] Tryz.func6 rfl ⟨rfl, trivial⟩ ?_
      exact ⟨congrArg Value.bool (deeds_no ha (by unfold shortD; simp only [Bool.and_eq_false_iff, decide_eq_false_iff_not]; omega)).symm, S1.le⟩
    refine r_skip ?_
    refine r_inBlock ?_
    refine r_region ?_
    refine l_x rfl (x_mv rfl) ?_
    refine l_x rfl (x_add rfl rfl (by omega)) ?_
    refine l_x rfl (x_as rfl) ?_
    refine l_nil ?_
    exact IH (i + 1) _ _ (by omega) ⟨rfl, rfl, trivial⟩ ⟨by omega, all_step9 hp ha (by unfold shortD; simp only [Bool.and_eq_true, decide_eq_true_eq]; omega), S1⟩
  obtain rfl : i = rs.length := by omega
  rw [List.take_length] at hp
  refine r_exit rfl ?_
  refine r_seq ?_
  refine r_region ?_
  refine l_x rfl (x_mv rfl) ?_
  refine l_x rfl (x_len (hD.rd.le S1.le) rfl Tryz.runUnderlying22) ?_
  refine l_x rfl (x_leq rfl rfl) ?_
  refine l_x rfl (x_as rfl) ?_
  refine l_nil ?_
  refine r_ret (rs := [.tmp 2]) [_] Tryz.func6 rfl ⟨rfl, trivial⟩ ?_
  exact ⟨congrArg Value.bool (deeds_yes hp).symm, S1.le⟩

def inhR (h1 h2 : Hd) : List Rw := [(⟨1, 0, 0, 1, 0, 1, 10080, 0, 0, [], []⟩, (none, 0, 0), (none, 0, 0)), (⟨2, 4, 5, 3, 1, 0, 0, 0, 0, [2, 3, 4], [1, 1, 2]⟩, h1, h2)]
theorem inh_dl {h1 h2 : Hd} : dl (inhR h1 h2) = inhD := rfl
theorem dsr_inh {w : World} {v : Value} {h1 h2 : Hd} (h : Rd ED w v (inhR h1 h2)) (g1 : Rd EI w (hv h1) [2, 3, 4]) (g2 : Rd EI w (hv h2) [1, 1, 2]) : DsR 45 3 w v (inhR h1 h2) := ⟨h, fun a ha => by
  simp only [inhR, List.mem_cons, List.not_mem_nil, or_false] at ha
  rcases ha with rfl | rfl
  · exact ⟨rd_nil, rd_nil, Nat.zero_le _, Nat.zero_le _⟩
  exact ⟨g1, g2, (Nat.le_of_ble_eq_true rfl : 3 ≤ maxLen), (Nat.le_of_ble_eq_true rfl : 3 ≤ maxLen)⟩, (Nat.le_of_ble_eq_true rfl : 2 ≤ maxLen)⟩

set_option maxHeartbeats 4000000 in
/-- couchant/couchanttop.inherited. -/
theorem c_inherited  (w : World) :
    Cl Tryz.prog 7 #[] w fun v w' => v = .bool true ∧ Le w w' := by
  refine fn_of_run (args := []) 48 Tryz.func7 rfl rfl rfl fun cs => ?_
  have S := Own.start (X := nob) w
  refine r_seq ?_
  refine r_region ?_
  refine l_x rfl (x_as rfl) ?_
  refine l_nil ?_
  refine r_seq ?_
  refine r_region ?_
  refine l_x rfl (x_buildS (out := [_, _, _, _, _, _, _, _, _, _, _]) (ss := [1, 1, 1, 1, 1, 1, 1, 1, 1, 1, 1]) Tryz.zeroValue45 rfl Tryz.runUnderlying45 ⟨Tryz.sizeOf3, Tryz.sizeOf3, Tryz.sizeOf3, Tryz.sizeOf5, Tryz.sizeOf3, Tryz.sizeOf3, Tryz.sizeOf3, Tryz.sizeOf3, Tryz.sizeOf3, Tryz.sizeOf23, Tryz.sizeOf23, trivial⟩ (fill_cons rfl rfl rfl (Nat.le_of_ble_eq_true rfl) (fill_cons rfl rfl rfl (Nat.le_of_ble_eq_true rfl) (fill_cons rfl rfl rfl (Nat.le_of_ble_eq_true rfl) (fill_cons rfl rfl rfl (Nat.le_of_ble_eq_true rfl) fill_nil))))) ?_
  refine l_buildSlice EI [2, 3, 4] S rfl Tryz.runUnderlying23 Tryz.sizeOf3 Tryz.zeroValue3 rfl ⟨rfl, rfl, rfl, rfl, rfl, rfl, trivial⟩ (Nat.le_of_ble_eq_true rfl) ?_
  intro v4 w1 S2 hl3
  refine l_buildSlice EI [1, 1, 2] S2 rfl Tryz.runUnderlying23 Tryz.sizeOf3 Tryz.zeroValue3 rfl ⟨rfl, rfl, rfl, rfl, rfl, rfl, trivial⟩ (Nat.le_of_ble_eq_true rfl) ?_
  intro v8 w5 S6 hl7
  refine l_x rfl (x_buildS (out := [_, _, _, _, _, _, _, _, _, _, _]) (ss := [1, 1, 1, 1, 1, 1, 1, 1, 1, 1, 1]) Tryz.zeroValue45 rfl Tryz.runUnderlying45 ⟨Tryz.sizeOf3, Tryz.sizeOf3, Tryz.sizeOf3, Tryz.sizeOf5, Tryz.sizeOf3, Tryz.sizeOf3, Tryz.sizeOf3, Tryz.sizeOf3, Tryz.sizeOf3, Tryz.sizeOf23, Tryz.sizeOf23, trivial⟩ (fill_cons rfl rfl rfl (Nat.le_of_ble_eq_true rfl) (fill_cons rfl rfl rfl (Nat.le_of_ble_eq_true rfl) (fill_cons rfl rfl rfl (Nat.le_of_ble_eq_true rfl) (fill_cons rfl rfl rfl (Nat.le_of_ble_eq_true rfl) (fill_cons rfl rfl rfl (Nat.le_of_ble_eq_true rfl) (fill_cons rfl (Rd.cells (vec_rd (S6.at 0 rfl))) rfl (Nat.le_of_ble_eq_true rfl) (fill_cons rfl (Rd.cells (vec_rd (S6.at 1 rfl))) rfl (Nat.le_of_ble_eq_true rfl) fill_nil)))))))) ?_
  obtain ⟨a7, c7, e7, _⟩ := vec_rd (S6.at 0 rfl)
  obtain ⟨a8, c8, e8, _⟩ := vec_rd (S6.at 1 rfl)
  subst e7 e8
  refine l_buildSlice ED (inhR (a7, 3, c7) (a8, 3, c8)) S6 rfl Tryz.runUnderlying22 Tryz.sizeOf45 Tryz.zeroValue45 rfl ⟨rfl, rfl, rfl, rfl, trivial⟩ (Nat.le_of_ble_eq_true rfl) ?_
  intro v12 w9 S10 hl11
  refine l_x rfl (x_as rfl) ?_
  refine l_nil ?_
  refine r_seq ?_
  refine r_region ?_
  refine l_x rfl (x_mv rfl) ?_
  refine l_call [] [] [_] rfl rfl Tryz.call13 rfl ((c_Check (inhR (a7, 3, c7) (a8, 3, c8)) _ _ (dsr_inh (vec_rd (S10.at 2 rfl)) (vec_rd (S10.at 0 rfl)) (vec_rd (S10.at 1 rfl)))).mono (fun v w' h => (⟨h.1.trans (by rw [inh_dl, inh_chk]), h.2⟩ : v = .tuple #[.int .i64 0, .int .i64 0] ∧ Le _ w'))) ?_
  rintro _ w13 ⟨rfl, hl15⟩
  have S14 := S10.step hl15
  refine l_x rfl (x_mv rfl) ?_
  refine l_x rfl (x_extract rfl rfl) ?_
  refine l_x rfl (x_extract rfl rfl) ?_
  refine l_x rfl (x_as rfl) ?_
  refine l_x rfl (x_as rfl) ?_
  refine l_nil ?_
  refine r_seq ?_
  refine r_region ?_
  refine l_x rfl (x_mv rfl) ?_
  refine l_call [] [] [_, _, _, _] rfl rfl Tryz.call8 rfl ((c_Uses (inhR (a7, 3, c7) (a8, 3, c8)) _ 5 4 4 _ (dsr_inh (vec_rd (S14.at 2 rfl)) (vec_rd (S14.at 0 rfl)) (vec_rd (S14.at 1 rfl)))).mono (fun v w' h => (⟨h.1.trans (by rw [inh_dl, inh_u4]), h.2⟩ : v = .int .i64 5040 ∧ Le _ w'))) ?_
  rintro _ w16 ⟨rfl, hl18⟩
  have S17 := S14.step hl18
  refine l_call [] [] [_, _] rfl rfl Tryz.call9 rfl ((c_Norm 5040 5040 (by omega) (by omega) _).mono (fun v w' h => (⟨h.1.trans (by rw [nrm_one]), h.2⟩ : v = .tuple #[.agg (encF ⟨1, 1⟩).toArray, .int .i64 0] ∧ Le _ w'))) ?_
  rintro _ w19 ⟨rfl, hl21⟩
  have S20 := S17.step hl21
  refine l_x rfl (x_mv rfl) ?_
  refine l_x rfl (x_extract rfl rfl) ?_
  refine l_x rfl (x_extract rfl rfl) ?_
  refine l_alloc S20 rfl Tryz.zeroValue28 rfl ?_
  intro b25 w22 S23 hl24
  refine l_stores S23 3 rfl rfl rfl rfl (EF.one _) Tryz.sizeOf28 (by first | exact Nat.le_refl _ | simp) (splice_all rfl) ?_
  intro w26 S27 hk28
  refine l_x rfl (x_as rfl) ?_
  refine l_nil ?_
  refine r_seq ?_
  refine r_region ?_
  refine l_x rfl (x_mv rfl) ?_
  refine l_x rfl (x_eql rfl rfl) ?_
  refine l_x rfl (x_mv rfl) ?_
  refine l_splitd (d := 24) rfl (fun hg24 => ?_) (fun hg24 => ?_)
  · skip
    refine l_x rfl (x_mv rfl) ?_
    refine l_x rfl (x_eql rfl rfl) ?_
    refine l_x rfl (x_pick_t rfl rfl) ?_
    refine l_x rfl (x_mv rfl) ?_
    refine l_splitd (d := 28) rfl (fun hg28 => ?_) (fun hg28 => ?_)
    · skip
      refine l_x rfl (x_mv rfl) ?_
      refine l_call [] [] [_, _, _, _] rfl rfl Tryz.call8 rfl ((c_Uses (inhR (a7, 3, c7) (a8, 3, c8)) _ 4 4 1 _ (dsr_inh (vec_rd (S27.at 2 rfl)) (vec_rd (S27.at 0 rfl)) (vec_rd (S27.at 1 rfl)))).mono (fun v w' h => (⟨h.1.trans (by rw [inh_dl, inh_u1]), h.2⟩ : v = .int .i64 10080 ∧ Le _ w'))) ?_
      rintro _ w29 ⟨rfl, hl31⟩
      have S30 := S27.step hl31
      refine l_x rfl (x_eql rfl rfl) ?_
      refine l_x rfl (x_pick_t rfl rfl) ?_
      refine l_x rfl (x_mv rfl) ?_
      refine l_splitd (d := 33) rfl (fun hg33 => ?_) (fun hg33 => ?_)
      · skip
        refine l_x rfl (x_mv rfl) ?_
        refine l_call [] [] [_, _, _, _] rfl rfl Tryz.call8 rfl ((c_Uses (inhR (a7, 3, c7) (a8, 3, c8)) _ 5 4 2 _ (dsr_inh (vec_rd (S30.at 2 rfl)) (vec_rd (S30.at 0 rfl)) (vec_rd (S30.at 1 rfl)))).mono (fun v w' h => (⟨h.1.trans (by rw [inh_dl, inh_u2]), h.2⟩ : v = .int .i64 2520 ∧ Le _ w'))) ?_
        rintro _ w32 ⟨rfl, hl34⟩
        have S33 := S30.step hl34
        refine l_x rfl (x_eql rfl rfl) ?_
        refine l_x rfl (x_pick_t rfl rfl) ?_
        refine l_x rfl (x_mv rfl) ?_
        refine l_splitd (d := 38) rfl (fun hg38 => ?_) (fun hg38 => ?_)
        · skip
          refine l_x rfl (x_load rfl (ld_blks (S33.blk 3 rfl) Tryz.isAgg28 Tryz.sizeOf28 rfl rfl)) ?_
          refine l_x rfl (x_buildS (out := [_, _]) (ss := [1, 1]) Tryz.zeroValue28 rfl Tryz.runUnderlying28 ⟨Tryz.sizeOf3, Tryz.sizeOf3, trivial⟩ (fill_cons rfl rfl rfl (Nat.le_of_ble_eq_true rfl) (fill_cons rfl rfl rfl (Nat.le_of_ble_eq_true rfl) fill_nil))) ?_
          refine l_x rfl (x_eqF (b := ⟨1, 1⟩) rfl rfl) ?_
          refine l_x rfl (x_pick_t rfl rfl) ?_
          refine l_x rfl (x_mv rfl) ?_
          refine l_splitd (d := 43) rfl (fun hg43 => ?_) (fun hg43 => ?_)
          · skip
            refine l_x rfl (x_mv rfl) ?_
            refine l_call [] [] [_, _, _] rfl rfl Tryz.call15 rfl ((c_Total (inhR (a7, 3, c7) (a8, 3, c8)) _ 5 4 _ (dsr_inh (vec_rd (S33.at 2 rfl)) (vec_rd (S33.at 0 rfl)) (vec_rd (S33.at 1 rfl)))).mono (fun v w' h => (⟨h.1.trans (by rw [inh_dl, inh_t]), h.2⟩ : v = .int .i64 10080 ∧ Le _ w'))) ?_
            rintro _ w35 ⟨rfl, hl37⟩
            have S36 := S33.step hl37
            refine l_x rfl (x_eql rfl rfl) ?_
            refine l_x rfl (x_pick_t rfl rfl) ?_
            refine l_x rfl (x_as rfl) ?_
            refine l_nil ?_
            refine r_ret (rs := [.tmp 0]) [_] Tryz.func7 rfl ⟨rfl, trivial⟩ ?_
            exact ⟨rfl, S36.le⟩
          exact absurd rfl hg43
        exact absurd rfl hg38
      exact absurd rfl hg33
    exact absurd rfl hg28
  exact absurd rfl hg24

end Go.Proofs

/-
  What the rows need: how arguments are opened.
-/
namespace Go.Proofs
open Go Go.Vk Go.Vk.Flow

open Go.ChangeShapes Go.WideShapes Go.RowKit Go.Joins Go.Vk.Deed
theorem ownT : ownKnob Tryz.prog.godebug = none := by kernel_rfl
theorem laidT : laidOutB Tryz.prog = true := by kernel_rfl
theorem headsT : (Tryz.prog.mayEnter && (false == Tryz.prog.liftsFinal) && (Tryz.prog.make == some .cut)) = true := by kernel_rfl
theorem mayT : Tryz.prog.mayEnter = true := by
  have h := headsT
  rw [Bool.and_eq_true, Bool.and_eq_true] at h
  exact h.1.1
theorem liftT : Tryz.prog.liftsFinal = false := by
  have h := headsT
  rw [Bool.and_eq_true, Bool.and_eq_true] at h
  exact (beq_iff_eq.1 h.1.2).symm
theorem makeT : Tryz.prog.make = some .cut := by
  have h := headsT
  rw [Bool.and_eq_true, Bool.and_eq_true] at h
  exact beq_iff_eq.1 h.2
theorem cellsD : Tryz.prog.cellsOf 45 = 11 := by kernel_rfl
theorem deedT : ∃ fs, DeedT Tryz.prog 45 3 5 23 fs := by
  refine ⟨_, Tryz.underlying45, Tryz.underlying3, Tryz.underlying5, Tryz.underlying23, cellsI, by kernel_rfl, by kernel_rfl, fun i hi => ?_⟩
  match i, hi with
  | 0, _ => exact ⟨_, rfl, rfl, rfl⟩
  | 1, _ => exact ⟨_, rfl, rfl, rfl⟩
  | 2, _ => exact ⟨_, rfl, rfl, rfl⟩
  | 3, _ => exact ⟨_, rfl, rfl, rfl⟩
  | 4, _ => exact ⟨_, rfl, rfl, rfl⟩
  | 5, _ => exact ⟨_, rfl, rfl, rfl⟩
  | 6, _ => exact ⟨_, rfl, rfl, rfl⟩
  | 7, _ => exact ⟨_, rfl, rfl, rfl⟩
  | 8, _ => exact ⟨_, rfl, rfl, rfl⟩
  | 9, _ => exact ⟨_, rfl, rfl, rfl⟩
  | 10, _ => exact ⟨_, rfl, rfl, rfl⟩
section
variable {H : Type} {enc : TypeId × Value → H} {W : World} {base : Nat} {sp : Nat → Bool} {held : Bool} {r : Reach} {b0 : Nat}
set_option maxRecDepth 100000 in
theorem openInts {v : Value} {d : DataW H} {p : List MemPlace} (hv : Value.okWide Tryz.prog W r b0 23 v) (h : DataW.Trod enc Tryz.prog W base sp held 23 v d p) : ∃ l, Rd EI W v l ∧ l.length ≤ maxLen := by
  obtain ⟨a, len, cap, rfl⟩ := okWide_slice Tryz.underlying23 hv
  obtain ⟨fuel, hf⟩ := h
  exact rd_of EI Tryz.underlying23 cellsI (fun fuel cs y hl hy => dec_int Tryz.underlying3 fuel cs y hl hy) hf
set_option maxRecDepth 100000 in
theorem openDeeds {v : Value} {d : DataW H} {p : List MemPlace} (hv : Value.okWide Tryz.prog W r b0 22 v) (h : DataW.Trod enc Tryz.prog W base sp held 22 v d p) : ∃ rs, DsR 45 3 W v rs ∧ rs.length ≤ maxLen := by
  obtain ⟨a, len, cap, rfl⟩ := okWide_slice Tryz.underlying22 hv
  obtain ⟨fuel, hf⟩ := h
  obtain ⟨fs, hT⟩ := deedT
  exact open_deeds hT cellsD Tryz.underlying22 hf
end

end Go.Proofs
