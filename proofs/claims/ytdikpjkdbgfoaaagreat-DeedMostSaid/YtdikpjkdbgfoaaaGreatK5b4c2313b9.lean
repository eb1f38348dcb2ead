/- Texts joined for claims: LMost. -/
import Derived.Test.YtdikpjkdbgfoaaaGreatKdffaecee19
import Derived.Test.YtdikpjkdbgfoaaaGreatKca8eab11cb
import Derived.Test.YtdikpjkdbgfoaaaGreatKfe983418bb
/-
  Contracts of functions of the program: each by symbolic execution of its text.
-/
namespace Go.Proofs
open Go Go.Vk Go.Vk.Flow

open Go.Vk.Deed
theorem dsr_most {w : World} {v : Value} {n : Nat} {e : Int} (hn : n ≤ 404) (h : Rd ED w v (mostR n e)) : DsR 26 3 w v (mostR n e) := ⟨h, fun a ha => by
  obtain ⟨j, _, rfl⟩ := List.mem_map.1 ha
  exact sub_nil w _ rfl rfl, by rw [mostR_len]; omega⟩

set_option maxHeartbeats 4000000 in
/-- couchant/couchantlaw02.DeedMost. -/
theorem lawMost (many parts : Int) (w : World) :
    Cl Tryz.prog 3 #[.int .i64 many, .int .i64 parts] w fun v w' => v = .bool true ∧ Le w w' := by
  refine fn_of_run (args := [_, _]) 81 Tryz.func3 rfl rfl rfl fun cs => ?_
  have S := Own.start (X := nob) w
  refine r_seq ?_
  refine r_region ?_
  refine l_x rfl (x_as rfl) ?_
  refine l_nil ?_
  refine r_seq ?_
  have hm10 := Int.emod_nonneg (IntKind.u64.wrap many) (by decide : (10 : Int) ≠ 0)
  have hM10 := Int.emod_lt_of_pos (IntKind.u64.wrap many) (by decide : 0 < (10 : Int))
  refine r_region ?_
  refine l_x rfl (x_mv rfl) ?_
  refine l_x rfl (x_convertw rfl Tryz.runUnderlying3 Tryz.runUnderlying22) ?_
  refine l_x rfl (x_remk rfl rfl ⟨u64_wrap_nonneg _, by decide⟩) ?_
  refine l_x rfl (x_convert rfl Tryz.runUnderlying22 Tryz.runUnderlying3 (i64_in (by omega))) ?_
  refine l_x rfl (x_add rfl rfl (by omega)) ?_
  refine l_x rfl (x_as rfl) ?_
  refine l_nil ?_
  refine r_seq ?_
  have hm3000000 := Int.emod_nonneg (IntKind.u64.wrap parts) (by decide : (3000000 : Int) ≠ 0)
  have hM3000000 := Int.emod_lt_of_pos (IntKind.u64.wrap parts) (by decide : 0 < (3000000 : Int))
  refine r_region ?_
  refine l_x rfl (x_mv rfl) ?_
  refine l_x rfl (x_convertw rfl Tryz.runUnderlying3 Tryz.runUnderlying22) ?_
  refine l_x rfl (x_remk rfl rfl ⟨u64_wrap_nonneg _, by decide⟩) ?_
  refine l_x rfl (x_convert rfl Tryz.runUnderlying22 Tryz.runUnderlying3 (i64_in (by omega))) ?_
  refine l_x rfl (x_add rfl rfl (by omega)) ?_
  refine l_x rfl (x_as rfl) ?_
  refine l_nil ?_
  refine r_seq ?_
  obtain ⟨n, hn⟩ : ∃ n : Nat, 395 + IntKind.u64.wrap many % 10 = (n : Int) := ⟨_, (Int.toNat_of_nonneg (by omega)).symm⟩
  have hnb : n ≤ 404 := by omega
  obtain ⟨e, he⟩ : ∃ e : Int, 1 + IntKind.u64.wrap parts % 3000000 = e := ⟨_, rfl⟩
  have heb : 1 ≤ e ∧ e ≤ 3000000 := by omega
  refine r_region ?_
  refine l_x rfl (x_as rfl) ?_
  have S1 := S.nilvec (E := ED)
  refine l_nil ?_
  refine r_seq ?_
  refine r_seq ?_
  refine r_region ?_
  refine l_x rfl (x_as rfl) ?_
  refine l_nil ?_
  refine r_block ?_
  refine r_loop (G := Nat × Value) (fun ⟨i, vo⟩ => n - i) (fun ⟨i, vo⟩ => [(5, .int .i64 n), (6, .int .i64 e), (7, vo), (8, .int .i64 i)]) (fun ⟨i, vo⟩ w' => (i ≤ n) ∧ Own nob w w' [vec ED vo (mostR i e)]) (0, .slice none 0 0) ⟨(congrArg (Value.int .i64) hn), (congrArg (Value.int .i64) he), rfl, rfl, trivial⟩ ⟨Nat.zero_le _, (S1.take 1)⟩ ?_
  rintro ⟨i, vo⟩ ρ w1 ⟨hi, S1⟩ IH
  refine r_seq ?_
  refine r_seq ?_
  refine r_region ?_
  refine l_x rfl (x_mv rfl) ?_
  refine l_x rfl (x_mv rfl) ?_
  refine l_x rfl (x_lss rfl rfl) ?_
  refine l_nil ?_
  refine r_ifd rfl (fun hc25 => ?_) (fun hc25 => ?_)
  · skip
    refine r_skip ?_
    refine r_seq ?_
    refine r_block ?_
    refine r_region ?_
    refine l_x rfl (x_mv rfl) ?_
    refine l_x rfl (x_mv rfl) ?_
    refine l_x rfl (x_add rfl rfl (by omega)) ?_
    refine l_x rfl (x_mv rfl) ?_
    refine l_x rfl (x_rem rfl rfl (by omega)) ?_
    refine l_x rfl (x_add rfl rfl (by omega)) ?_
    refine l_x rfl (x_mv rfl) ?_
    refine l_x rfl (x_buildS (out := [_, _, _, _, _, _, _, _, _, _, _]) (ss := [1, 1, 1, 1, 1, 1, 1, 1, 1, 1, 1]) Tryz.zeroValue26 rfl Tryz.runUnderlying26 ⟨Tryz.sizeOf3, Tryz.sizeOf3, Tryz.sizeOf3, Tryz.sizeOf5, Tryz.sizeOf3, Tryz.sizeOf3, Tryz.sizeOf3, Tryz.sizeOf3, Tryz.sizeOf3, Tryz.sizeOf24, Tryz.sizeOf24, trivial⟩ (fill_cons rfl rfl rfl (Nat.le_of_ble_eq_true rfl) (fill_cons rfl rfl rfl (Nat.le_of_ble_eq_true rfl) (fill_cons rfl rfl rfl (Nat.le_of_ble_eq_true rfl) (fill_cons rfl rfl rfl (Nat.le_of_ble_eq_true rfl) fill_nil))))) ?_
    refine l_buildSlice ED [(⟨(i : Int) + 1, 0, 0, 1, 0, 1 + (i : Int) % 40, e, 0, 0, [], []⟩, (none, 0, 0), (none, 0, 0))] S1 rfl Tryz.runUnderlying23 Tryz.sizeOf26 Tryz.zeroValue26 rfl ⟨rfl, rfl, trivial⟩ (Nat.le_of_ble_eq_true rfl) ?_
    intro v5 w2 S3 hl4
    refine l_append ED S3 0 rfl rfl rfl rfl (vec_rd (S3.at 1 rfl)) Tryz.underlying23 info26 rfl rfl rfl (by rw [mostR_len]; unfold maxLen; simp; omega) (by rw [mostR_len]; show _ * 120 ≤ _; simp; omega) ?_
    intro v9 w6 S7 hk8 hv10
    refine l_x rfl (x_as rfl) ?_
    refine l_nil ?_
    refine r_inBlock ?_
    refine r_region ?_
    refine l_x rfl (x_mv rfl) ?_
    refine l_x rfl (x_add rfl rfl (by omega)) ?_
    refine l_x rfl (x_as rfl) ?_
    refine l_nil ?_
    exact IH (i + 1, v9) _ _ (by dsimp only; omega) ⟨rfl, rfl, rfl, rfl, trivial⟩ ⟨by omega, (by rw [mostR_succ]; exact S7.take 1)⟩
  obtain rfl : n = i := by omega
  refine r_exit rfl ?_
  refine r_seq ?_
  refine r_region ?_
  refine l_x rfl (x_mv rfl) ?_
  refine l_call [] [] [_] rfl rfl Tryz.call21 rfl (c_Check (mostR n e) _ _ (dsr_most hnb (vec_rd (S1.at 0 rfl)))) ?_
  rintro _ w11 ⟨rfl, hl13⟩
  have S12 := S1.step hl13
  refine l_x rfl (x_mv rfl) ?_
  refine l_x rfl (x_extract rfl rfl) ?_
  refine l_x rfl (x_extract rfl rfl) ?_
  refine l_x rfl (x_as rfl) ?_
  refine l_x rfl (x_as rfl) ?_
  refine l_nil ?_
  refine r_seq ?_
  refine r_region ?_
  refine l_x rfl (x_mv rfl) ?_
  refine l_call [] [] [_] rfl rfl Tryz.call22 rfl (c_rCheck (mostR n e) _ _ (dsr_most hnb (vec_rd (S12.at 0 rfl)))) ?_
  rintro _ w14 ⟨rfl, hl16⟩
  have S15 := S12.step hl16
  refine l_x rfl (x_mv rfl) ?_
  refine l_x rfl (x_extract rfl rfl) ?_
  refine l_x rfl (x_extract rfl rfl) ?_
  refine l_x rfl (x_as rfl) ?_
  refine l_x rfl (x_as rfl) ?_
  refine l_nil ?_
  refine r_seq ?_
  refine r_seq ?_
  have hch := most_chk n e
  have hne : 0 ≤ (n : Int) * e ∧ (n : Int) * e ≤ 404 * 3000000 := ⟨Int.mul_nonneg (by omega) (by omega), Int.mul_le_mul (by omega) heb.2 (by omega) (by omega)⟩
  refine r_region ?_
  refine l_x rfl (x_mv rfl) ?_
  refine l_x rfl (x_mv rfl) ?_
  refine l_x rfl (x_neq rfl rfl) ?_
  refine l_x rfl (x_mv rfl) ?_
  refine l_splitd (d := 51) rfl (fun hg51 => ?_) (fun hg51 => ?_)
  · exact absurd rfl hg51
  refine l_x rfl (x_mv rfl) ?_
  refine l_x rfl (x_mv rfl) ?_
  refine l_x rfl (x_neq rfl rfl) ?_
  refine l_x rfl (x_pick_f rfl rfl) ?_
  refine l_x rfl (x_mv rfl) ?_
  refine l_splitd (d := 56) rfl (fun hg56 => ?_) (fun hg56 => ?_)
  · exact absurd rfl hg56
  refine l_x rfl (x_mv rfl) ?_
  refine l_x rfl (x_neq rfl rfl) ?_
  refine l_x rfl (x_mv rfl) ?_
  refine l_splitd (d := 59) rfl (fun hg59 => ?_) (fun hg59 => ?_)
  · skip
    refine l_x rfl (x_mv rfl) ?_
    refine l_x rfl (x_neq rfl rfl) ?_
    refine l_x rfl (x_pick_t rfl rfl) ?_
    refine l_x rfl (x_mv rfl) ?_
    refine l_splitd (d := 63) rfl (fun hg63 => ?_) (fun hg63 => ?_)
    · skip
      refine l_x rfl (x_mv rfl) ?_
      refine l_x rfl (x_neq rfl rfl) ?_
      refine l_x rfl (x_pick_t rfl rfl) ?_
      refine l_x rfl (x_pick_f rfl rfl) ?_
      refine l_nil ?_
      refine r_ifd rfl (fun hc67 => ?_) (fun hc67 => ?_)
      · omega
      refine r_skip ?_
      refine r_seq ?_
      refine r_region ?_
      refine l_call [] [] [] rfl rfl Tryz.call23 rfl (c_enteredX _) ?_
      rintro _ w17 ⟨rfl, hl19⟩
      have S18 := S15.step hl19
      refine l_x rfl (x_mv rfl) ?_
      refine l_x rfl (x_mv rfl) ?_
      refine l_x rfl (x_neq rfl rfl) ?_
      refine l_x rfl (x_mv rfl) ?_
      refine l_splitd (d := 72) rfl (fun hg72 => ?_) (fun hg72 => ?_)
      · skip
        refine l_pass rfl ?_
        refine l_pass rfl ?_
        refine l_pass rfl ?_
        refine l_pass rfl ?_
        refine l_pass rfl ?_
        refine l_pass rfl ?_
        refine l_x rfl (x_pick_t rfl rfl) ?_
        refine l_x rfl (x_pick_t rfl rfl) ?_
        refine l_x rfl (x_as rfl) ?_
        refine l_nil ?_
        refine r_ret (rs := [.tmp 4]) [_] Tryz.func3 rfl ⟨rfl, trivial⟩ ?_
        exact ⟨by first | rfl | exact congrArg Value.bool (decide_eq_true rfl), S18.le⟩
      have hR : rightD (dl (mostR n e)) = true := decide_eq_true (by omega)
      refine l_x rfl (x_mv rfl) ?_
      refine l_call [] [] [_, _, _] rfl rfl Tryz.call24 rfl ((c_Total (mostR n e) _ 0 0 _ (dsr_most hnb (vec_rd (S18.at 0 rfl)))).mono (fun v w' h => show v = .int .i64 ((n : Int) * e) ∧ Le _ w' from ⟨h.1.trans (congrArg (Value.int .i64) ((law_sums hR).1.trans (most_sum n e))), h.2⟩)) ?_
      rintro _ w20 ⟨rfl, hl22⟩
      have S21 := S18.step hl22
      refine l_x rfl (x_mv rfl) ?_
      refine l_x rfl (x_mv rfl) ?_
      refine l_x rfl (x_mul rfl rfl (by omega)) ?_
      refine l_x rfl (x_eql rfl rfl) ?_
      refine l_x rfl (x_pick_f rfl rfl) ?_
      refine l_x rfl (x_pick_t rfl rfl) ?_
      refine l_x rfl (x_as rfl) ?_
      refine l_nil ?_
      refine r_ret (rs := [.tmp 4]) [_] Tryz.func3 rfl ⟨rfl, trivial⟩ ?_
      exact ⟨by first | rfl | exact congrArg Value.bool (decide_eq_true rfl), S21.le⟩
    refine l_pass rfl ?_
    refine l_pass rfl ?_
    refine l_x rfl (x_pick_f rfl rfl) ?_
    refine l_x rfl (x_pick_f rfl rfl) ?_
    refine l_nil ?_
    refine r_false rfl ?_
    refine r_skip ?_
    refine r_seq ?_
    refine r_region ?_
    refine l_call [] [] [] rfl rfl Tryz.call23 rfl (c_enteredX _) ?_
    rintro _ w23 ⟨rfl, hl25⟩
    have S24 := S15.step hl25
    refine l_x rfl (x_mv rfl) ?_
    refine l_x rfl (x_mv rfl) ?_
    refine l_x rfl (x_neq rfl rfl) ?_
    refine l_x rfl (x_mv rfl) ?_
    refine l_splitd (d := 72) rfl (fun hg72 => ?_) (fun hg72 => ?_)
    · skip
      refine l_pass rfl ?_
      refine l_pass rfl ?_
      refine l_pass rfl ?_
      refine l_pass rfl ?_
      refine l_pass rfl ?_
      refine l_pass rfl ?_
      refine l_x rfl (x_pick_t rfl rfl) ?_
      refine l_x rfl (x_pick_t rfl rfl) ?_
      refine l_x rfl (x_as rfl) ?_
      refine l_nil ?_
      refine r_ret (rs := [.tmp 4]) [_] Tryz.func3 rfl ⟨rfl, trivial⟩ ?_
      exact ⟨by first | rfl | exact congrArg Value.bool (decide_eq_true rfl), S24.le⟩
    have hR : rightD (dl (mostR n e)) = true := decide_eq_true (by omega)
    refine l_x rfl (x_mv rfl) ?_
    refine l_call [] [] [_, _, _] rfl rfl Tryz.call24 rfl ((c_Total (mostR n e) _ 0 0 _ (dsr_most hnb (vec_rd (S24.at 0 rfl)))).mono (fun v w' h => show v = .int .i64 ((n : Int) * e) ∧ Le _ w' from ⟨h.1.trans (congrArg (Value.int .i64) ((law_sums hR).1.trans (most_sum n e))), h.2⟩)) ?_
    rintro _ w26 ⟨rfl, hl28⟩
    have S27 := S24.step hl28
    refine l_x rfl (x_mv rfl) ?_
    refine l_x rfl (x_mv rfl) ?_
    refine l_x rfl (x_mul rfl rfl (by omega)) ?_
    refine l_x rfl (x_eql rfl rfl) ?_
    refine l_x rfl (x_pick_f rfl rfl) ?_
    refine l_x rfl (x_pick_t rfl rfl) ?_
    refine l_x rfl (x_as rfl) ?_
    refine l_nil ?_
    refine r_ret (rs := [.tmp 4]) [_] Tryz.func3 rfl ⟨rfl, trivial⟩ ?_
    exact ⟨by first | rfl | exact congrArg Value.bool (decide_eq_true rfl), S27.le⟩
  refine l_pass rfl ?_
  refine l_pass rfl ?_
  refine l_x rfl (x_pick_f rfl rfl) ?_
  refine l_x rfl (x_mv rfl) ?_
  refine l_pass rfl ?_
  refine l_pass rfl ?_
  refine l_x rfl (x_pick_f rfl rfl) ?_
  refine l_x rfl (x_pick_f rfl rfl) ?_
  refine l_nil ?_
  refine r_false rfl ?_
  refine r_skip ?_
  refine r_seq ?_
  refine r_region ?_
  refine l_call [] [] [] rfl rfl Tryz.call23 rfl (c_enteredX _) ?_
  rintro _ w29 ⟨rfl, hl31⟩
  have S30 := S15.step hl31
  refine l_x rfl (x_mv rfl) ?_
  refine l_x rfl (x_mv rfl) ?_
  refine l_x rfl (x_neq rfl rfl) ?_
  refine l_x rfl (x_mv rfl) ?_
  refine l_splitd (d := 72) rfl (fun hg72 => ?_) (fun hg72 => ?_)
  · skip
    refine l_pass rfl ?_
    refine l_pass rfl ?_
    refine l_pass rfl ?_
    refine l_pass rfl ?_
    refine l_pass rfl ?_
    refine l_pass rfl ?_
    refine l_x rfl (x_pick_t rfl rfl) ?_
    refine l_x rfl (x_pick_t rfl rfl) ?_
    refine l_x rfl (x_as rfl) ?_
    refine l_nil ?_
    refine r_ret (rs := [.tmp 4]) [_] Tryz.func3 rfl ⟨rfl, trivial⟩ ?_
    exact ⟨by first | rfl | exact congrArg Value.bool (decide_eq_true rfl), S30.le⟩
  have hR : rightD (dl (mostR n e)) = true := decide_eq_true (by omega)
  refine l_x rfl (x_mv rfl) ?_
  refine l_call [] [] [_, _, _] rfl rfl Tryz.call24 rfl ((c_Total (mostR n e) _ 0 0 _ (dsr_most hnb (vec_rd (S30.at 0 rfl)))).mono (fun v w' h => show v = .int .i64 ((n : Int) * e) ∧ Le _ w' from ⟨h.1.trans (congrArg (Value.int .i64) ((law_sums hR).1.trans (most_sum n e))), h.2⟩)) ?_
  rintro _ w32 ⟨rfl, hl34⟩
  have S33 := S30.step hl34
  refine l_x rfl (x_mv rfl) ?_
  refine l_x rfl (x_mv rfl) ?_
  refine l_x rfl (x_mul rfl rfl (by omega)) ?_
  refine l_x rfl (x_eql rfl rfl) ?_
  refine l_x rfl (x_pick_f rfl rfl) ?_
  refine l_x rfl (x_pick_t rfl rfl) ?_
  refine l_x rfl (x_as rfl) ?_
  refine l_nil ?_
  refine r_ret (rs := [.tmp 4]) [_] Tryz.func3 rfl ⟨rfl, trivial⟩ ?_
  exact ⟨by first | rfl | exact congrArg Value.bool (decide_eq_true rfl), S33.le⟩

end Go.Proofs
