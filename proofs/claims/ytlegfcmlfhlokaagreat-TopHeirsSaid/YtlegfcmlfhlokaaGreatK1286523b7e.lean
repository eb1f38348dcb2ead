/- Texts joined for claims: LHeirs. -/
import Derived.Test.YtlegfcmlfhlokaaGreatK575456e6fd
set_option linter.unusedVariables false
set_option linter.unusedSimpArgs false
set_option linter.unusedSectionVars false
/-
  Contracts of functions of the program: each by symbolic execution of its text.
-/
namespace Go.Proofs
open Go Go.Vk Go.Vk.Flow

open Go.Vk.Deed Go.Vk.Share

set_option maxHeartbeats 400000 in
/-- couchant/couchanttop.TopHeirs. -/
theorem lawHeirs (rs : List Rw) (vl : Value) (known day owner : Int) (l : List Int) (vp : Value) (hlm : l.length ≤ maxLen) (w : World) (hD : DsR 45 3 w vl rs) (hL : Rd EI w vp l) :
    Cl Tryz.prog 3 #[vl, .int .i64 known, .int .i64 day, .int .i64 owner, vp] w fun v w' => v = .bool true ∧ Le w w' := by
  have hun := uses_nn (dl rs) known day owner
  have hul := uses_le (dl rs) known day owner
  obtain ⟨q9, hq9⟩ : ∃ q : Fr, q = nrm (usesD (dl rs) known day owner) 5040 := ⟨_, rfl⟩
  refine fn_of_run (args := [_, _, _, _, _]) 120 Tryz.func3 rfl rfl rfl fun cs => ?_
  have S := Own.start (X := nob) w
  refine r_seq ?_
  refine r_region ?_
  refine l_x rfl (x_as rfl) ?_
  refine l_nil ?_
  refine r_seq ?_
  refine r_seq ?_
  refine r_region ?_
  refine l_x rfl (x_mv rfl) ?_
  refine l_call [] [] [_] rfl rfl Tryz.call6 rfl (c_deeds rs _ _ (hD.le S.le)) ?_
  rintro _ w1 ⟨rfl, hl3⟩
  have S2 := S.step hl3
  refine l_x rfl (x_not rfl) ?_
  refine l_x rfl (x_mv rfl) ?_
  refine l_split (d := 25) rfl (fun hg25 => ?_) (fun hg25 => ?_)
  · skip
    refine l_pass rfl ?_
    refine l_pass rfl ?_
    refine l_pass rfl ?_
    refine l_x rfl (x_pick_t rfl rfl) ?_
    refine l_nil ?_
    refine r_true rfl ?_
    refine r_seq ?_
    refine r_region ?_
    refine l_call [] [] [] rfl rfl Tryz.call7 rfl (c_inherited _) ?_
    rintro _ w4 ⟨rfl, hl6⟩
    have S5 := S2.step hl6
    refine l_x rfl (x_as rfl) ?_
    refine l_nil ?_
    refine r_ret (rs := [.tmp 10]) [_] Tryz.func3 rfl ⟨rfl, trivial⟩ ?_
    exact ⟨rfl, S5.le⟩
  have hl12 : l.length ≤ 12 ∨ 12 < l.length := by omega
  refine l_x rfl (x_mv rfl) ?_
  refine l_x rfl (x_len (hL.le S2.le) rfl Tryz.runUnderlying23) ?_
  refine l_x rfl (x_gtr rfl rfl) ?_
  refine l_x rfl (x_pick_f rfl rfl) ?_
  refine l_nil ?_
  refine r_ifd rfl (fun hc29 => ?_) (fun hc29 => ?_)
  · skip
    refine r_seq ?_
    refine r_region ?_
    refine l_call [] [] [] rfl rfl Tryz.call7 rfl (c_inherited _) ?_
    rintro _ w7 ⟨rfl, hl9⟩
    have S8 := S2.step hl9
    refine l_x rfl (x_as rfl) ?_
    refine l_nil ?_
    refine r_ret (rs := [.tmp 10]) [_] Tryz.func3 rfl ⟨rfl, trivial⟩ ?_
    exact ⟨rfl, S8.le⟩
  refine r_skip ?_
  refine r_seq ?_
  refine r_region ?_
  refine l_x rfl (x_mv rfl) ?_
  refine l_x rfl (x_mv rfl) ?_
  refine l_x rfl (x_mv rfl) ?_
  refine l_x rfl (x_mv rfl) ?_
  refine l_call [] [] [_, _, _, _] rfl rfl Tryz.call8 rfl (c_Uses rs vl known day owner _ (hD.le S2.le)) ?_
  rintro _ w10 ⟨rfl, hl12⟩
  have S11 := S2.step hl12
  refine l_x rfl (x_as rfl) ?_
  refine l_nil ?_
  refine r_seq ?_
  refine r_seq ?_
  refine r_region ?_
  refine l_x rfl (x_mv rfl) ?_
  refine l_x rfl (x_lss rfl rfl) ?_
  refine l_nil ?_
  refine r_ifd rfl (fun hc37 => ?_) (fun hc37 => ?_)
  · omega
  refine r_skip ?_
  refine r_seq ?_
  refine r_region ?_
  refine l_x rfl (x_mv rfl) ?_
  refine l_call [] [] [_, _] rfl rfl Tryz.call9 rfl ((c_Norm (usesD (dl rs) known day owner) 5040 (by omega) (by omega) _).mono (fun v w' h => (⟨h.1.trans (by rw [hq9]), h.2⟩ : v = .tuple #[.agg (encF q9).toArray, .int .i64 0] ∧ Le _ w'))) ?_
  rintro _ w13 ⟨rfl, hl15⟩
  have S14 := S11.step hl15
  refine l_x rfl (x_mv rfl) ?_
  refine l_x rfl (x_extract rfl rfl) ?_
  refine l_x rfl (x_extract rfl rfl) ?_
  refine l_alloc S14 rfl Tryz.zeroValue28 rfl ?_
  intro b19 w16 S17 hl18
  refine l_stores (vs := [_, _]) S17 0 rfl rfl rfl rfl (ones_cons rfl (ones_cons rfl ones_nil)) Tryz.sizeOf28 (by first | exact Nat.le_refl _ | simp) (splice_all rfl) ?_
  intro w20 S21 hk22
  refine l_x rfl (x_as rfl) ?_
  refine l_nil ?_
  refine r_seq ?_
  refine r_region ?_
  refine l_x rfl (x_mv rfl) ?_
  refine l_x rfl (x_mv rfl) ?_
  refine l_call [] [] [_, _] rfl rfl Tryz.call10 rfl (c_Whole _ l _ (by omega) _ (hL.le S21.le)) ?_
  rintro _ w23 ⟨s9, r9, ew9, rfl, hew9, hr9, hN4623, hl4623⟩
  have S24 := S21.add hl4623 hN4623
  refine l_x rfl (x_mv rfl) ?_
  refine l_x rfl (x_extract rfl rfl) ?_
  refine l_x rfl (x_extract rfl rfl) ?_
  refine l_x rfl (x_as rfl) ?_
  refine l_x rfl (x_as rfl) ?_
  refine l_nil ?_
  refine r_seq ?_
  refine r_region ?_
  refine l_x rfl (x_load rfl (ld_blks (S24.blk 0 rfl) Tryz.isAgg28 Tryz.sizeOf28 rfl rfl)) ?_
  refine l_x rfl (x_mv rfl) ?_
  refine l_call [] [] [_, _] rfl rfl Tryz.call11 rfl (c_Divide q9 l _ _ (hL.le S24.le)) ?_
  rintro _ w25 (⟨e9, hpe5225, rfl, hne9, hl5225⟩ | ⟨h05225, hno5225, rfl, hl5225⟩ | ⟨h05225, hall9, vo9, rfl, hN5225, hl5225⟩)
  · skip
    have S26 := S24.step hl5225
    refine l_x rfl (x_mv rfl) ?_
    refine l_x rfl (x_extract rfl rfl) ?_
    refine l_x rfl (x_extract rfl rfl) ?_
    refine l_x rfl (x_as rfl) ?_
    refine l_x rfl (x_as rfl) ?_
    refine l_nil ?_
    refine r_seq ?_
    refine r_seq ?_
    refine r_region ?_
    refine l_x rfl (x_mv rfl) ?_
    refine l_x rfl (x_neq rfl rfl) ?_
    refine l_nil ?_
    refine r_ifd rfl (fun hc56 => ?_) (fun hc56 => ?_)
    · exact absurd rfl hc56
    refine r_skip ?_
    refine r_seq ?_
    refine r_seq ?_
    refine r_region ?_
    refine l_x rfl (x_mv rfl) ?_
    refine l_x rfl (x_neq rfl rfl) ?_
    refine l_x rfl (x_mv rfl) ?_
    refine l_splitd (d := 59) rfl (fun hg59 => ?_) (fun hg59 => ?_)
    · skip
      refine l_pass rfl ?_
      refine l_pass rfl ?_
      refine l_x rfl (x_pick_t rfl rfl) ?_
      refine l_nil ?_
      refine r_true rfl ?_
      refine r_seq ?_
      refine r_region ?_
      refine l_call [] [] [] rfl rfl Tryz.call7 rfl (c_inherited _) ?_
      rintro _ w27 ⟨rfl, hl29⟩
      have S28 := S26.step hl29
      refine l_x rfl (x_as rfl) ?_
      refine l_nil ?_
      refine r_ret (rs := [.tmp 10]) [_] Tryz.func3 rfl ⟨rfl, trivial⟩ ?_
      exact ⟨rfl, S28.le⟩
    refine l_x rfl (x_mv rfl) ?_
    refine l_x rfl (x_neq rfl rfl) ?_
    refine l_x rfl (x_pick_f rfl rfl) ?_
    refine l_nil ?_
    refine r_ifd rfl (fun hc62 => ?_) (fun hc62 => ?_)
    · skip
      refine r_seq ?_
      refine r_region ?_
      refine l_call [] [] [] rfl rfl Tryz.call7 rfl (c_inherited _) ?_
      rintro _ w30 ⟨rfl, hl32⟩
      have S31 := S26.step hl32
      refine l_x rfl (x_as rfl) ?_
      refine l_nil ?_
      refine r_ret (rs := [.tmp 10]) [_] Tryz.func3 rfl ⟨rfl, trivial⟩ ?_
      exact ⟨rfl, S31.le⟩
    exact absurd hc62 (by omega)
  · skip
    have S33 := S24.step hl5225
    refine l_x rfl (x_mv rfl) ?_
    refine l_x rfl (x_extract rfl rfl) ?_
    refine l_x rfl (x_extract rfl rfl) ?_
    refine l_x rfl (x_as rfl) ?_
    refine l_x rfl (x_as rfl) ?_
    refine l_nil ?_
    refine r_seq ?_
    refine r_seq ?_
    refine r_region ?_
    refine l_x rfl (x_mv rfl) ?_
    refine l_x rfl (x_neq rfl rfl) ?_
    refine l_nil ?_
    refine r_ifd rfl (fun hc56 => ?_) (fun hc56 => ?_)
    · exact absurd rfl hc56
    refine r_skip ?_
    refine r_seq ?_
    refine r_seq ?_
    refine r_region ?_
    refine l_x rfl (x_mv rfl) ?_
    refine l_x rfl (x_neq rfl rfl) ?_
    refine l_x rfl (x_mv rfl) ?_
    refine l_splitd (d := 59) rfl (fun hg59 => ?_) (fun hg59 => ?_)
    · skip
      refine l_pass rfl ?_
      refine l_pass rfl ?_
      refine l_x rfl (x_pick_t rfl rfl) ?_
      refine l_nil ?_
      refine r_true rfl ?_
      refine r_seq ?_
      refine r_region ?_
      refine l_call [] [] [] rfl rfl Tryz.call7 rfl (c_inherited _) ?_
      rintro _ w34 ⟨rfl, hl36⟩
      have S35 := S33.step hl36
      refine l_x rfl (x_as rfl) ?_
      refine l_nil ?_
      refine r_ret (rs := [.tmp 10]) [_] Tryz.func3 rfl ⟨rfl, trivial⟩ ?_
      exact ⟨rfl, S35.le⟩
    refine l_x rfl (x_mv rfl) ?_
    refine l_x rfl (x_neq rfl rfl) ?_
    refine l_x rfl (x_pick_f rfl rfl) ?_
    refine l_nil ?_
    refine r_ifd rfl (fun hc62 => ?_) (fun hc62 => ?_)
    · skip
      refine r_seq ?_
      refine r_region ?_
      refine l_call [] [] [] rfl rfl Tryz.call7 rfl (c_inherited _) ?_
      rintro _ w37 ⟨rfl, hl39⟩
      have S38 := S33.step hl39
      refine l_x rfl (x_as rfl) ?_
      refine l_nil ?_
      refine r_ret (rs := [.tmp 10]) [_] Tryz.func3 rfl ⟨rfl, trivial⟩ ?_
      exact ⟨rfl, S38.le⟩
    exact absurd hc62 (by decide)
  have S40 := S24.add hl5225 hN5225
  refine l_x rfl (x_mv rfl) ?_
  refine l_x rfl (x_extract rfl rfl) ?_
  refine l_x rfl (x_extract rfl rfl) ?_
  refine l_x rfl (x_as rfl) ?_
  refine l_x rfl (x_as rfl) ?_
  refine l_nil ?_
  refine r_seq ?_
  refine r_seq ?_
  refine r_region ?_
  refine l_x rfl (x_mv rfl) ?_
  refine l_x rfl (x_neq rfl rfl) ?_
  refine l_nil ?_
  refine r_ifd rfl (fun hc56 => ?_) (fun hc56 => ?_)
  · exact absurd rfl hc56
  refine r_skip ?_
  refine r_seq ?_
  refine r_seq ?_
  refine r_region ?_
  refine l_x rfl (x_mv rfl) ?_
  refine l_x rfl (x_neq rfl rfl) ?_
  refine l_x rfl (x_mv rfl) ?_
  refine l_splitd (d := 59) rfl (fun hg59 => ?_) (fun hg59 => ?_)
  · skip
    refine l_pass rfl ?_
    refine l_pass rfl ?_
    refine l_x rfl (x_pick_t rfl rfl) ?_
    refine l_nil ?_
    refine r_true rfl ?_
    refine r_seq ?_
    refine r_region ?_
    refine l_call [] [] [] rfl rfl Tryz.call7 rfl (c_inherited _) ?_
    rintro _ w41 ⟨rfl, hl43⟩
    have S42 := S40.step hl43
    refine l_x rfl (x_as rfl) ?_
    refine l_nil ?_
    refine r_ret (rs := [.tmp 10]) [_] Tryz.func3 rfl ⟨rfl, trivial⟩ ?_
    exact ⟨rfl, S42.le⟩
  refine l_x rfl (x_mv rfl) ?_
  refine l_x rfl (x_neq rfl rfl) ?_
  refine l_x rfl (x_pick_f rfl rfl) ?_
  refine l_nil ?_
  refine r_ifd rfl (fun hc62 => ?_) (fun hc62 => ?_)
  · skip
    refine r_seq ?_
    refine r_region ?_
    refine l_call [] [] [] rfl rfl Tryz.call7 rfl (c_inherited _) ?_
    rintro _ w44 ⟨rfl, hl46⟩
    have S45 := S40.step hl46
    refine l_x rfl (x_as rfl) ?_
    refine l_nil ?_
    refine r_ret (rs := [.tmp 10]) [_] Tryz.func3 rfl ⟨rfl, trivial⟩ ?_
    exact ⟨rfl, S45.le⟩
  have hew0 : ew9 = 0 := Decidable.not_not.1 hg59
  have hp0 : prtE l (rng (usesD (dl rs) known day owner) 0 1000000000) = 0 := by rw [← hew9]; exact hew0
  have hrw : r9 = wholeS (usesD (dl rs) known day owner) l := hr9 hew0
  have hpo := prt_ok hp0
  have hl40 := hpo.1
  have hl0 := hpo.2.1
  have hsp := hpo.2.2.2.1
  have hsb9 := hpo.2.2.2.2
  clear hpo
  have hwl : r9.length = l.length := by rw [hrw]; exact whole_len
  have hdl : (divL q9 l).length = l.length := div_len
  have hwn : ∀ x ∈ l, 0 ≤ x := fun x hx => (hl0 x hx).1
  refine r_skip ?_
  refine r_seq ?_
  refine r_seq ?_
  refine r_region ?_
  refine l_x rfl (x_mv rfl) ?_
  refine l_x rfl (x_len (vec_rd (S40.at 1 rfl)) rfl Tryz.runUnderlying23) ?_
  refine l_x rfl (x_mv rfl) ?_
  refine l_x rfl (x_len (hL.le S40.le) rfl Tryz.runUnderlying23) ?_
  refine l_x rfl (x_neq rfl rfl) ?_
  refine l_x rfl (x_mv rfl) ?_
  refine l_splitd (d := 69) rfl (fun hg69 => ?_) (fun hg69 => ?_)
  · exact absurd hwl (by first | omega | (rw [hwl] at *; omega))
  refine l_x rfl (x_mv rfl) ?_
  refine l_x rfl (x_len (vec_rd (S40.at 2 rfl)) rfl Tryz.runUnderlying34) ?_
  refine l_x rfl (x_mv rfl) ?_
  refine l_x rfl (x_len (hL.le S40.le) rfl Tryz.runUnderlying23) ?_
  refine l_x rfl (x_neq rfl rfl) ?_
  refine l_x rfl (x_pick_f rfl rfl) ?_
  refine l_nil ?_
  refine r_ifd rfl (fun hc75 => ?_) (fun hc75 => ?_)
  · omega
  refine r_skip ?_
  refine r_seq ?_
  refine r_region ?_
  refine l_x rfl (x_as rfl) ?_
  refine l_nil ?_
  refine r_seq ?_
  refine r_seq ?_
  refine r_region ?_
  refine l_x rfl (x_as rfl) ?_
  refine l_nil ?_
  refine r_block ?_
  refine r_loop (G := Nat) (fun i => l.length - i) (fun i => [(4, vp), (11, .int .i64 (usesD (dl rs) known day owner)), (14, s9), (16, vo9), (18, .int .i64 (sumI (r9.take i))), (19, .int .i64 i)]) (fun i w' => (i ≤ l.length) ∧ Own nob w w' [vec EI s9 r9, vec EF vo9 (divL q9 l)]) 0 ⟨rfl, rfl, rfl, rfl, rfl, rfl, trivial⟩ ⟨Nat.zero_le _, (S40.pick [1, 2] (by decide) rfl)⟩ ?_
  rintro i ρ w1 ⟨hi, S1⟩ IH
  refine r_seq ?_
  refine r_seq ?_
  refine r_region ?_
  refine l_x rfl (x_mv rfl) ?_
  refine l_x rfl (x_mv rfl) ?_
  refine l_x rfl (x_len (hL.le S1.le) rfl Tryz.runUnderlying23) ?_
  refine l_x rfl (x_lss rfl rfl) ?_
  refine l_nil ?_
  refine r_ifd rfl (fun hc79 => ?_) (fun hc79 => ?_)
  · skip
    obtain ⟨p, hp⟩ : ∃ p, l[i]? = some p := ⟨_, List.getElem?_eq_getElem (by omega)⟩
    obtain ⟨y, hy⟩ : ∃ y, r9[i]? = some y := ⟨_, List.getElem?_eq_getElem (by omega)⟩
    have hyb := whole_bd ⟨hun, hul⟩ hwn hsp (by rw [← hrw]; exact hy)
    have hnr := whole_near hwn hsp hp (by rw [← hrw]; exact hy)
    obtain ⟨q8, hq8⟩ : ∃ q : Fr, q = nrm y 5040 := ⟨_, rfl⟩
    obtain ⟨q7, hq7⟩ : ∃ q : Fr, q = nrm (q9.num * p) (q9.den * sumI l) := ⟨_, rfl⟩
    have hnm : (minus q8 q7).num * 5040 < 1 * (minus q8 q7).den ∧ -1 * (minus q8 q7).den < (minus q8 q7).num * 5040 ∧ 0 < (minus q8 q7).den := by rw [hq8, hq7, hq9]; exact near_math hsp hnr
    have hsi := sumI_bd (l := r9.take i) (B := 2000000000) (fun x hx => by obtain ⟨j, hj⟩ := List.getElem?_of_mem (List.mem_of_mem_take hx); exact whole_bd ⟨hun, hul⟩ hwn hsp (by rw [← hrw]; exact hj))
    rw [List.length_take] at hsi
    refine r_skip ?_
    refine r_seq ?_
    refine r_block ?_
    refine r_seq ?_
    refine r_region ?_
    refine l_x rfl (x_mv rfl) ?_
    refine l_x rfl (x_mv rfl) ?_
    refine l_index EI rfl (vec_rd (S1.at 0 rfl)) rfl rfl Tryz.runUnderlying23 Tryz.sizeOf3 (by omega) hy ?_
    intro b47 o48 hat49 row50
    refine l_x rfl (x_load rfl (ld_cell Tryz.isAgg3 (row50 0 _ rfl))) ?_
    refine l_call [] [] [_, _] rfl rfl Tryz.call9 rfl ((c_Norm y 5040 (by omega) (by omega) _).mono (fun v w' h => (⟨h.1.trans (by rw [hq8]), h.2⟩ : v = .tuple #[.agg (encF q8).toArray, .int .i64 0] ∧ Le _ w'))) ?_
    rintro _ w51 ⟨rfl, hl53⟩
    have S52 := S1.step hl53
    refine l_x rfl (x_mv rfl) ?_
    refine l_x rfl (x_extract rfl rfl) ?_
    refine l_x rfl (x_extract rfl rfl) ?_
    refine l_alloc S52 rfl Tryz.zeroValue28 rfl ?_
    intro b57 w54 S55 hl56
    refine l_stores (vs := [_, _]) S55 2 rfl rfl rfl rfl (ones_cons rfl (ones_cons rfl ones_nil)) Tryz.sizeOf28 (by first | exact Nat.le_refl _ | simp) (splice_all rfl) ?_
    intro w58 S59 hk60
    refine l_x rfl (x_as rfl) ?_
    refine l_nil ?_
    refine r_seq ?_
    refine r_seq ?_
    refine r_drawR 18 Tryz.mixed (by kernel_rfl) ?_
    refine w_x rfl (fun w1 h1 => x_mv rfl) ?_
    refine w_x rfl (fun w1 h1 => x_neq rfl rfl) ?_
    refine w_x rfl (fun w1 h1 => x_mv rfl) ?_
    refine w_splitd (d := 92) rfl (fun hg92 => ?_) (fun hg92 => ?_)
    · exact absurd rfl hg92
    refine w_x rfl (fun w1 h1 => x_mv rfl) ?_
    refine w_x rfl (fun w1 h1 => x_mv rfl) ?_
    refine w_index EI rfl (vec_rd (S59.at 0 rfl)) rfl rfl Tryz.runUnderlying23 Tryz.sizeOf3 (by omega) hy ?_
    intro b61 o62 hat63 row64
    refine w_x rfl (fun w1 h1 => x_load rfl (ld_cell Tryz.isAgg3 ((row64.le h1) 0 _ rfl))) ?_
    refine w_x rfl (fun w1 h1 => x_lss rfl rfl) ?_
    refine w_x rfl (fun w1 h1 => x_pick_f rfl rfl) ?_
    refine w_x rfl (fun w1 h1 => x_mv rfl) ?_
    refine w_splitd (d := 99) rfl (fun hg99 => ?_) (fun hg99 => ?_)
    · omega
    refine w_x rfl (fun w1 h1 => x_load rfl (ld_blks ((S59.step h1).blk 2 rfl) Tryz.isAgg28 Tryz.sizeOf28 rfl rfl)) ?_
    refine w_x rfl (fun w1 h1 => x_mv rfl) ?_
    refine w_x rfl (fun w1 h1 => x_mv rfl) ?_
    refine w_index EF rfl (vec_rd (S59.at 1 rfl)) rfl rfl Tryz.runUnderlying34 Tryz.sizeOf28 (by omega) (show _ = some q7 by rw [hq7]; exact div_get hp) ?_
    intro b65 o66 hat67 row68
    refine w_x rfl (fun w1 h1 => x_load rfl (ld_row Tryz.isAgg28 Tryz.sizeOf28 rfl (row68.le h1))) ?_
    refine wd_call [] [] [_, _] rfl rfl Tryz.call12 rfl (fun w1 h1 => c_near q8 q7 (by rw [hq8]; exact nrm_valid (by omega) (nrm_small (by omega) (by omega) (by omega))) (by rw [hq7]; subst hq9; exact ex_valid hall9 hp hsp) ⟨hnm.1, hnm.2.1⟩ _) ?_
    refine w_x rfl (fun w1 h1 => x_not rfl) ?_
    refine w_x rfl (fun w1 h1 => x_pick_f rfl rfl) ?_
    refine w_nil ?_
    intro w69 hl70
    have S71 := S59.step hl70
    refine l_nil ?_
    refine r_false rfl ?_
    refine r_skip ?_
    refine r_region ?_
    refine l_x rfl (x_mv rfl) ?_
    refine l_x rfl (x_mv rfl) ?_
    refine l_x rfl (x_mv rfl) ?_
    refine l_index EI rfl (vec_rd (S71.at 0 rfl)) rfl rfl Tryz.runUnderlying23 Tryz.sizeOf3 (by omega) hy ?_
    intro b72 o73 hat74 row75
    refine l_x rfl (x_load rfl (ld_cell Tryz.isAgg3 (row75 0 _ rfl))) ?_
    refine l_x rfl (x_add rfl rfl (by omega)) ?_
    refine l_x rfl (x_as rfl) ?_
    refine l_nil ?_
    refine r_inBlock ?_
    refine r_region ?_
    refine l_x rfl (x_mv rfl) ?_
    refine l_x rfl (x_add rfl rfl (by omega)) ?_
    refine l_x rfl (x_as rfl) ?_
    refine l_nil ?_
    exact IH (i + 1) _ _ (by omega) ⟨rfl, rfl, rfl, rfl, (congrArg (Value.int .i64) (take_sum hy).symm), rfl, trivial⟩ ⟨by omega, (S71.take 2)⟩
  obtain rfl : i = l.length := by omega
  refine r_exit rfl ?_
  refine r_seq ?_
  refine r_region ?_
  refine l_call [] [] [] rfl rfl Tryz.call7 rfl (c_inherited _) ?_
  rintro _ w76 ⟨rfl, hl78⟩
  have S77 := S1.step hl78
  refine l_x rfl (x_mv rfl) ?_
  refine l_x rfl (x_mv rfl) ?_
  refine l_x rfl (x_mv rfl) ?_
  refine l_x rfl (x_eql rfl rfl) ?_
  refine l_x rfl (x_pick_t rfl rfl) ?_
  refine l_x rfl (x_as rfl) ?_
  refine l_nil ?_
  refine r_ret (rs := [.tmp 10]) [_] Tryz.func3 rfl ⟨rfl, trivial⟩ ?_
  exact ⟨congrArg Value.bool (decide_eq_true (by rw [← hwl, List.take_length, hrw]; exact whole_sum hwn hsp)), S77.le⟩

end Go.Proofs
