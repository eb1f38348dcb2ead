/- Texts joined for claims: LLate. -/
import Derived.Test.YtdikpjkdbgfoaaaGreatKebe3467e95
import Derived.Test.YtdikpjkdbgfoaaaGreatK84df0c2062
import Derived.Test.YtdikpjkdbgfoaaaGreatK9dd726b5f8
set_option linter.unusedVariables false
set_option linter.unusedSimpArgs false
set_option linter.unusedSectionVars false
/-
  Contracts of functions of the program: each by symbolic execution of its text.
-/
namespace Go.Proofs
open Go Go.Vk Go.Vk.Flow

open Go.Vk.Deed
theorem dsr_late {w : World} {v v' : Value} {rs : List Rw} {n : Nat} (hD : DsR 26 3 w v rs) (hn : n ≤ rs.length) (h : Rd ED w v' (lateR rs n)) : DsR 26 3 w v' (lateR rs n) := ⟨h, fun a ha => by
  obtain ⟨i, hi, rfl⟩ := List.mem_map.1 ha
  have hi := List.mem_range.1 hi
  obtain ⟨b, hb⟩ : ∃ b, rs[i]? = some b := ⟨_, List.getElem?_eq_getElem (by omega)⟩
  rw [at_get hb]
  have hs := hD.sub b (List.mem_of_getElem? hb)
  exact ⟨hs.1, hs.2, hs.3, hs.4⟩, by rw [lateR_len]; exact Nat.le_trans hn hD.lm⟩
theorem idx_rng {α : Type} (p : α → Bool) (l : List α) : -1 ≤ idx p l ∧ idx p l < l.length + 1 := by
  by_cases h : idx p l = -1
  · omega
  obtain ⟨i, a, h1, h2, _⟩ := idx_pos h
  have := (List.getElem?_eq_some_iff.1 h2).1
  omega

set_option maxHeartbeats 4000000 in
/-- couchant/couchantlaw02.DeedLate. -/
theorem lawLate (rs : List Rw) (vl : Value) (known day : Int) (w : World) (hD : DsR 26 3 w vl rs) :
    Cl Tryz.prog 15 #[vl, .int .i64 known, .int .i64 day] w fun v w' => v = .bool true ∧ Le w w' := by
  refine fn_of_run (args := [_, _, _]) 66 Tryz.func15 rfl rfl rfl fun cs => ?_
  have S := Own.start (X := nob) w
  refine r_seq ?_
  refine r_region ?_
  refine l_x rfl (x_as rfl) ?_
  refine l_nil ?_
  refine r_seq ?_
  refine r_seq ?_
  refine r_region ?_
  refine l_x rfl (x_mv rfl) ?_
  refine l_call [] [] [_] rfl rfl Tryz.call41 rfl (c_valid rs _ _ (hD.le S.le)) ?_
  rintro _ w1 ⟨rfl, hl3⟩
  have S2 := S.step hl3
  refine l_x rfl (x_not rfl) ?_
  refine l_nil ?_
  refine r_if rfl (fun hc15 => ?_) (fun hc15 => ?_)
  · skip
    refine r_seq ?_
    refine r_region ?_
    refine l_call [] [] [] rfl rfl Tryz.call23 rfl (c_enteredX _) ?_
    rintro _ w4 ⟨rfl, hl6⟩
    have S5 := S2.step hl6
    refine l_x rfl (x_as rfl) ?_
    refine l_nil ?_
    refine r_ret (rs := [.tmp 6]) [_] Tryz.func15 rfl ⟨rfl, trivial⟩ ?_
    exact ⟨rfl, S5.le⟩
  have hV : fewB (dl rs) = true ∧ rightD (dl rs) = true := by simpa using hc15
  have hR := hV.2
  refine r_skip ?_
  refine r_seq ?_
  refine r_region ?_
  refine l_x rfl (x_mv rfl) ?_
  refine l_x rfl (x_mv rfl) ?_
  refine l_call [] [] [_, _] rfl rfl Tryz.call49 rfl (c_Counting rs vl known _ (hD.le S2.le)) ?_
  rintro v197 w7 ⟨rq197, hq197, hO197⟩
  have S8 := S2.join hO197
  have hqq := hq197
  rw [if_pos hR] at hqq
  have hlq : rq197.length ≤ 400 := by rw [← dl_len, hqq]; exact count_len hR
  obtain ⟨rq, hrqe⟩ : ∃ q, q = rq197 := ⟨_, rfl⟩
  subst hrqe
  have hfq : ∀ x ∈ dl rq, formed x = true := fun x hx => by rw [hqq] at hx; exact right_formed hR (count_sub hx)
  refine l_x rfl (x_as rfl) ?_
  refine l_nil ?_
  refine r_seq ?_
  refine r_region ?_
  refine l_x rfl (x_as rfl) ?_
  have S9 := S8.nilvec (E := ED)
  refine l_nil ?_
  refine r_seq ?_
  refine r_seq ?_
  refine r_region ?_
  refine l_x rfl (x_as rfl) ?_
  refine l_nil ?_
  refine r_block ?_
  refine r_loop (G := Nat × Value) (fun ⟨i, vo⟩ => rq.length - i) (fun ⟨i, vo⟩ => [(0, vl), (1, .int .i64 known), (2, .int .i64 day), (7, v197), (8, vo), (9, .int .i64 i)]) (fun ⟨i, vo⟩ w' => (i ≤ rq.length) ∧ Own nob w w' [vec ED v197 rq, pack (dnest 3 rq), vec ED vo (lateR rq i)]) (0, .slice none 0 0) ⟨rfl, rfl, rfl, rfl, rfl, rfl, trivial⟩ ⟨Nat.zero_le _, (S9.take 3)⟩ ?_
  rintro ⟨i, vo⟩ ρ w1 ⟨hi, S1⟩ IH
  refine r_seq ?_
  refine r_seq ?_
  refine r_region ?_
  refine l_x rfl (x_mv rfl) ?_
  refine l_x rfl (x_mv rfl) ?_
  refine l_x rfl (x_len (vec_rd (S1.at 0 rfl)) rfl Tryz.runUnderlying23) ?_
  refine l_x rfl (x_lss rfl rfl) ?_
  refine l_nil ?_
  refine r_ifd rfl (fun hc23 => ?_) (fun hc23 => ?_)
  · skip
    obtain ⟨a, ha⟩ : ∃ a, rq[i]? = some a := ⟨_, List.getElem?_eq_getElem (by omega)⟩
    have ham := List.mem_of_getElem? ha
    have hix := idx_rng (fun b : Rw => decide (b.1.id = a.1.of)) rq
    refine r_skip ?_
    refine r_seq ?_
    refine r_block ?_
    refine r_seq ?_
    refine r_region ?_
    refine l_x rfl (x_mv rfl) ?_
    refine l_x rfl (x_mv rfl) ?_
    refine l_index ED rfl (vec_rd (S1.at 0 rfl)) rfl rfl Tryz.runUnderlying23 Tryz.sizeOf26 (by omega) ha ?_
    intro b10 o11 hat12 row13
    refine l_x rfl (x_load rfl (ld_row Tryz.isAgg26 Tryz.sizeOf26 rfl row13)) ?_
    refine l_alloc S1 rfl Tryz.zeroValue26 rfl ?_
    intro b17 w14 S15 hl16
    refine l_stores S15 3 rfl rfl rfl rfl (ED.one _) Tryz.sizeOf26 (by first | exact Nat.le_refl _ | simp) (splice_all rfl) ?_
    intro w18 S19 hk20
    refine l_nil ?_
    refine r_seq ?_
    refine r_region ?_
    refine l_x rfl (x_mv rfl) ?_
    refine l_x rfl (x_add rfl rfl (by omega)) ?_
    refine l_x rfl (x_fieldAddr rfl Tryz.runUnderlying26 rfl Tryz.sizeOf3 (by decide)) ?_
    refine l_storeq (c' := [_, _, _, _, _, _, _, _, _, _, _]) S19 3 rfl rfl rfl rfl rfl Tryz.sizeOf3 (by first | (simp; done) | exact Nat.le_of_ble_eq_true rfl) rfl ?_
    intro w21 S22 hk23
    refine l_nil ?_
    refine r_seq ?_
    refine r_region ?_
    refine l_x rfl (x_fieldAddr rfl Tryz.runUnderlying26 rfl Tryz.sizeOf3 (by decide)) ?_
    refine l_storeq (c' := [_, _, _, _, _, _, _, _, _, _, _]) S22 3 rfl rfl rfl rfl rfl Tryz.sizeOf3 (by first | (simp; done) | exact Nat.le_of_ble_eq_true rfl) rfl ?_
    intro w24 S25 hk26
    refine l_nil ?_
    refine r_seq ?_
    refine r_seq ?_
    refine r_region ?_
    refine l_x rfl (x_fieldAddr rfl Tryz.runUnderlying26 rfl Tryz.sizeOf3 (by decide)) ?_
    refine l_x rfl (x_load rfl (ld_blk (S25.blk 3 rfl) Tryz.isAgg3 rfl)) ?_
    refine l_x rfl (x_gtr rfl rfl) ?_
    refine l_nil ?_
    refine r_ifd rfl (fun hc36 => ?_) (fun hc36 => ?_)
    · skip
      refine r_region ?_
      refine l_x rfl (x_mv rfl) ?_
      refine l_x rfl (x_fieldAddr rfl Tryz.runUnderlying26 rfl Tryz.sizeOf3 (by decide)) ?_
      refine l_x rfl (x_load rfl (ld_blk (S25.blk 3 rfl) Tryz.isAgg3 rfl)) ?_
      refine l_call [] [] [_, _] rfl rfl Tryz.call57 rfl (c_index _ _ _ (by omega) _ (vec_rd (S25.at 0 rfl))) ?_
      rintro _ w27 ⟨rfl, hl29⟩
      have S28 := S25.step hl29
      refine l_x rfl (x_add rfl rfl (by omega)) ?_
      refine l_x rfl (x_fieldAddr rfl Tryz.runUnderlying26 rfl Tryz.sizeOf3 (by decide)) ?_
      refine l_storeq (c' := [_, _, _, _, _, _, _, _, _, _, _]) S28 3 rfl rfl rfl rfl rfl Tryz.sizeOf3 (by first | (simp; done) | exact Nat.le_of_ble_eq_true rfl) rfl ?_
      intro w30 S31 hk32
      refine l_nil ?_
      refine r_region ?_
      refine l_x rfl (x_mv rfl) ?_
      refine l_x rfl (x_load rfl (ld_blks (S31.blk 3 rfl) Tryz.isAgg26 Tryz.sizeOf26 rfl rfl)) ?_
      refine l_buildSlice ED [((⟨(i : Int) + 1, a.1.day, 0, a.1.kind, a.1.frm, a.1.to, a.1.parts, a.1.stop, idx (fun b : Rw => decide (b.1.id = a.1.of)) rq + 1, a.1.heirs, a.1.shares⟩ : D), a.2)] S31 rfl Tryz.runUnderlying23 Tryz.sizeOf26 Tryz.zeroValue26 rfl ⟨rfl, rfl, trivial⟩ (Nat.le_of_ble_eq_true rfl) ?_
      intro v36 w33 S34 hl35
      refine l_append ED S34 2 rfl rfl rfl rfl (vec_rd (S34.at 4 rfl)) Tryz.underlying23 info26 rfl rfl rfl (by rw [lateR_len]; unfold maxLen; simp; omega) (by rw [lateR_len]; show _ * 120 ≤ _; simp; omega) ?_
      intro v40 w37 S38 hk39 hv41
      refine l_x rfl (x_as rfl) ?_
      refine l_nil ?_
      refine r_inBlock ?_
      refine r_region ?_
      refine l_x rfl (x_mv rfl) ?_
      refine l_x rfl (x_add rfl rfl (by omega)) ?_
      refine l_x rfl (x_as rfl) ?_
      refine l_nil ?_
      exact IH (i + 1, v40) _ _ (by dsimp only; omega) ⟨rfl, rfl, rfl, rfl, rfl, rfl, trivial⟩ ⟨by omega, (by rw [lateR_succ ha, reD, if_pos (by omega)]; exact S38.take 3)⟩
    refine r_skip ?_
    refine r_region ?_
    refine l_x rfl (x_mv rfl) ?_
    refine l_x rfl (x_load rfl (ld_blks (S25.blk 3 rfl) Tryz.isAgg26 Tryz.sizeOf26 rfl rfl)) ?_
    refine l_buildSlice ED [((⟨(i : Int) + 1, a.1.day, 0, a.1.kind, a.1.frm, a.1.to, a.1.parts, a.1.stop, a.1.of, a.1.heirs, a.1.shares⟩ : D), a.2)] S25 rfl Tryz.runUnderlying23 Tryz.sizeOf26 Tryz.zeroValue26 rfl ⟨rfl, rfl, trivial⟩ (Nat.le_of_ble_eq_true rfl) ?_
    intro v45 w42 S43 hl44
    refine l_append ED S43 2 rfl rfl rfl rfl (vec_rd (S43.at 4 rfl)) Tryz.underlying23 info26 rfl rfl rfl (by rw [lateR_len]; unfold maxLen; simp; omega) (by rw [lateR_len]; show _ * 120 ≤ _; simp; omega) ?_
    intro v49 w46 S47 hk48 hv50
    refine l_x rfl (x_as rfl) ?_
    refine l_nil ?_
    refine r_inBlock ?_
    refine r_region ?_
    refine l_x rfl (x_mv rfl) ?_
    refine l_x rfl (x_add rfl rfl (by omega)) ?_
    refine l_x rfl (x_as rfl) ?_
    refine l_nil ?_
    exact IH (i + 1, v49) _ _ (by dsimp only; omega) ⟨rfl, rfl, rfl, rfl, rfl, rfl, trivial⟩ ⟨by omega, (by rw [lateR_succ ha, reD, if_neg (by omega)]; exact S47.take 3)⟩
  obtain rfl : i = rq.length := by omega
  refine r_exit rfl ?_
  refine r_seq ?_
  refine r_region ?_
  refine l_x rfl (x_mv rfl) ?_
  refine l_call [] [] [_] rfl rfl Tryz.call21 rfl (c_Check (lateR rq rq.length) _ _ (dsr_late (dnest_dsr (S1.at 0 rfl) (S1.at 1 rfl) (fun a ha => by have := lens_of hfq a ha; omega) (by omega)) (Nat.le_refl _) (vec_rd (S1.at 2 rfl)))) ?_
  rintro _ w51 ⟨rfl, hl53⟩
  have S52 := S1.step hl53
  refine l_x rfl (x_mv rfl) ?_
  refine l_x rfl (x_extract rfl rfl) ?_
  refine l_x rfl (x_extract rfl rfl) ?_
  refine l_x rfl (x_as rfl) ?_
  refine l_x rfl (x_as rfl) ?_
  refine l_nil ?_
  refine r_seq ?_
  refine r_seq ?_
  refine r_region ?_
  refine l_x rfl (x_mv rfl) ?_
  refine l_x rfl (x_neq rfl rfl) ?_
  refine l_nil ?_
  refine r_ifd rfl (fun hc53 => ?_) (fun hc53 => ?_)
  · skip
    refine r_seq ?_
    refine r_region ?_
    refine l_call [] [] [] rfl rfl Tryz.call23 rfl (c_enteredX _) ?_
    rintro _ w54 ⟨rfl, hl56⟩
    have S55 := S52.step hl56
    refine l_x rfl (x_as rfl) ?_
    refine l_nil ?_
    refine r_ret (rs := [.tmp 6]) [_] Tryz.func15 rfl ⟨rfl, trivial⟩ ?_
    exact ⟨rfl, S55.le⟩
  have hM : rightD (dl (lateR rq rq.length)) = true := decide_eq_true (Decidable.not_not.1 hc53)
  refine r_skip ?_
  refine r_seq ?_
  refine r_region ?_
  refine l_call [] [] [] rfl rfl Tryz.call23 rfl (c_enteredX _) ?_
  rintro _ w57 ⟨rfl, hl59⟩
  have S58 := S52.step hl59
  refine l_x rfl (x_mv rfl) ?_
  refine l_x rfl (x_mv rfl) ?_
  refine l_x rfl (x_mv rfl) ?_
  refine l_call [] [] [_, _, _] rfl rfl Tryz.call61 rfl (c_Accounts (lateR rq rq.length) _ 0 day _ (dsr_late (dnest_dsr (S58.at 0 rfl) (S58.at 1 rfl) (fun a ha => by have := lens_of hfq a ha; omega) (by omega)) (Nat.le_refl _) (vec_rd (S58.at 2 rfl)))) ?_
  rintro v5960 w60 ⟨hN5960, hl5960⟩
  have S61 := S58.add hl5960 hN5960
  refine l_x rfl (x_mv rfl) ?_
  refine l_x rfl (x_mv rfl) ?_
  refine l_x rfl (x_mv rfl) ?_
  refine l_call [] [] [_, _, _] rfl rfl Tryz.call61 rfl (c_Accounts rs vl known day _ (hD.le S61.le)) ?_
  rintro v6362 w62 ⟨hN6362, hl6362⟩
  have S63 := S61.add hl6362 hN6362
  refine l_call [] [] [_, _] rfl rfl Tryz.call60 rfl ((c_SameAccounts _ _ _ _ (by have := accs_len (onD (dl (lateR rq rq.length)) 0 day) day; omega) _ (vec_rd (S63.at 3 rfl)) (vec_rd (S63.at 4 rfl))).mono (fun v w' h => (⟨h.1.trans (congrArg Value.bool (decide_eq_true (late_same hR hqq hM))), h.2⟩ : v = .bool true ∧ Le _ w'))) ?_
  rintro _ w64 ⟨rfl, hl66⟩
  have S65 := S63.step hl66
  refine l_x rfl (x_pick_t rfl rfl) ?_
  refine l_x rfl (x_as rfl) ?_
  refine l_nil ?_
  refine r_ret (rs := [.tmp 6]) [_] Tryz.func15 rfl ⟨rfl, trivial⟩ ?_
  exact ⟨rfl, S65.le⟩

end Go.Proofs
