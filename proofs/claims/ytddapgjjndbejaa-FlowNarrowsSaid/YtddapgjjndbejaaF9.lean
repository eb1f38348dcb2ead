/-
  Contracts of functions of the program: each by symbolic execution of its text.
-/
import Derived.Test.YtddapgjjndbejaaF8
namespace Go.Proofs
open Go Go.Vk Go.Vk.Flow

theorem c_Mul1 (c : Int) (w : World) (h : 0 ≤ c ∧ c < 9223372036854775808) : Cl Try.prog 133 #[.int .u64 1, .int .u64 c] w fun v w' => v = .tuple #[.int .u64 0, .int .u64 c] ∧ Le w w' := by
  have h1 := Try.bits_Mul 1 c.toNat (by omega) (by omega) w
  have e : ((c.toNat : Nat) : Int) = c := by omega
  have e1 : 1 * c.toNat / 18446744073709551616 = 0 := by omega
  have e2 : 1 * c.toNat % 18446744073709551616 = c.toNat := by omega
  rw [e1, e2, e] at h1
  exact h1.mono fun e w' ⟨he, hw⟩ => ⟨_, he, rfl, by subst hw; exact Le.refl _⟩

/-- slices.Repeat[[]int,int]. -/
theorem c_Repeat (vx : Value) (z count : Int) (hc : 0 ≤ count ∧ count ≤ 100000) (w : World) (Hx : Rd EI w vx [z]) :
    Cl Try.prog 116 #[vx, .int .i64 count] w fun v w' => New w w' (vec EI v (List.replicate count.toNat z)) ∧ Le w w' := by
  refine fn_of_run (args := [_, _]) 48 Try.func116 rfl rfl rfl fun cs => ?_
  have S := Own.start (X := nob) w
  refine r_seq ?_
  refine r_region ?_
  refine l_x rfl (x_as rfl) ?_
  refine l_nil ?_
  refine r_seq ?_
  refine r_seq ?_
  refine r_region ?_
  refine l_x rfl (x_mv rfl) ?_
  refine l_x rfl (x_lss rfl rfl) ?_
  refine l_nil ?_
  refine r_ifd rfl (fun hc10 => ?_) (fun hc10 => ?_)
  · exact absurd hc10 (by omega)
  · skip
    refine r_skip ?_
    refine r_seq ?_
    refine r_region ?_
    refine l_x rfl (x_mv rfl) ?_
    refine l_x rfl (x_len (Hx.le S.le) rfl Try.runUnderlying25) ?_
    refine l_x rfl (x_convert rfl Try.runUnderlying3 Try.runUnderlying56 (u64_in (by simp))) ?_
    refine l_x rfl (x_mv rfl) ?_
    refine l_x rfl (x_convert rfl Try.runUnderlying3 Try.runUnderlying56 (u64_in (by omega))) ?_
    refine l_call [] [] [_, _] rfl rfl Try.call133 rfl (c_Mul1 count _ ⟨by omega, by omega⟩) ?_
    rintro _ w1 ⟨rfl, hl3⟩
    have S2 := S.step hl3
    refine l_x rfl (x_mv rfl) ?_
    refine l_x rfl (x_extract rfl rfl) ?_
    refine l_x rfl (x_extract rfl rfl) ?_
    refine l_x rfl (x_as rfl) ?_
    refine l_x rfl (x_as rfl) ?_
    refine l_nil ?_
    refine r_seq ?_
    refine r_seq ?_
    refine r_region ?_
    refine l_x rfl (x_mv rfl) ?_
    refine l_x rfl (x_gtr rfl rfl) ?_
    refine l_x rfl (x_mv rfl) ?_
    refine l_splitd (d := 23) rfl (fun hg23 => ?_) (fun hg23 => ?_)
    · exact absurd hg23 (by omega)
    · skip
      refine l_x rfl (x_mv rfl) ?_
      refine l_x rfl (x_gtr rfl rfl) ?_
      refine l_x rfl (x_pick_f rfl rfl) ?_
      refine l_nil ?_
      refine r_ifd rfl (fun hc26 => ?_) (fun hc26 => ?_)
      · exact absurd hc26 (by omega)
      · skip
        refine r_skip ?_
        refine r_seq ?_
        refine r_region ?_
        refine l_x rfl (x_mv rfl) ?_
        refine l_x rfl (x_convert rfl Try.runUnderlying56 Try.runUnderlying3 (i64_in (by omega))) ?_
        refine l_make EI 0 S2 rfl Try.runUnderlying25 Try.sizeOf3 Try.typeInfo3 Try.zeroValue3 rfl rfl (congrArg (Value.int .i64) (Int.toNat_of_nonneg (by omega)).symm) (congrArg (Value.int .i64) (Int.toNat_of_nonneg (by omega)).symm) (Nat.le_refl _) (by unfold maxLen; omega) (by show _ * 8 ≤ _; omega) ?_
        intro v7 w4 hv8 S5 hl6
        refine l_x rfl (x_as rfl) ?_
        refine l_nil ?_
        refine r_seq ?_
        refine r_region ?_
        refine l_x rfl (x_mv rfl) ?_
        refine l_x rfl (x_mv rfl) ?_
        refine l_copy S5 0 rfl rfl (tail_self (S5.at 0 rfl)) rfl rfl (Hx.le S5.le) Try.underlying25 size3 rfl ?_
        intro w9 S10 hk11
        refine l_x rfl (x_as rfl) ?_
        refine l_nil ?_
        refine r_seq ?_
        refine r_block ?_
        refine r_loop (G := Nat) (fun k => count.toNat - k) (fun k => [(7, v7), (8, .int .i64 k)]) (fun k w' => (k ≤ count.toNat) ∧ (0 < count.toNat → 0 < k) ∧ Own nob w w' [vec EI v7 (rp z count.toNat k)]) (min 1 count.toNat) ⟨rfl, (congrArg (fun q : Nat => Value.int .i64 (q : Int)) (by rw [List.length_replicate]; simp : min [z].length ((List.replicate count.toNat (0 : Int)).length - 0) = min 1 count.toNat)), trivial⟩ ⟨by omega, by omega, (by have hS := S10; rw [rp_start] at hS; exact hS)⟩ ?_
        rintro k ρ w1 ⟨hk, hp, S1⟩ IH
        refine r_seq ?_
        refine r_seq ?_
        refine r_region ?_
        refine l_x rfl (x_mv rfl) ?_
        refine l_x rfl (x_mv rfl) ?_
        refine l_x rfl (x_len (vec_rd (S1.at 0 rfl)) rfl Try.runUnderlying25) ?_
        refine l_x rfl (x_lss rfl rfl) ?_
        refine l_nil ?_
        refine r_ifd rfl (fun hc37 => ?_) (fun hc37 => ?_)
        · skip
          rw [rp_len hk] at hc37
          refine r_skip ?_
          refine r_block ?_
          have hml : min ((rp z count.toNat k).take k).length ((rp z count.toNat k).length - k) ≤ 100000 := by rw [rp_len hk]; omega
          refine r_drawE 8 (Rsc.fp (vec EI v7 (rp z count.toNat k))) Try.mixed (by kernel_rfl) ?_
          intro w12 hl13
          have S14 := S1.step hl13
          refine e_exact 0 _ (by kernel_rfl) rfl rfl (by kernel_rfl) rfl (ex_x rfl (fun w1 h1 => x_mv rfl)) ?_
          refine e_exact 1 _ (by kernel_rfl) rfl rfl (by kernel_rfl) rfl (ex_x rfl (fun w1 h1 => x_mv rfl)) ?_
          refine e_exact 2 _ (by kernel_rfl) rfl rfl (by kernel_rfl) rfl (ex_x rfl (fun w1 h1 => x_mv rfl)) ?_
          refine e_tail 3 (by kernel_rfl) rfl rfl (by kernel_rfl) rfl rfl (S14.at 0 rfl) rfl rfl Try.runUnderlying25 Try.sizeOf3 (by rw [rp_len hk]; omega) ?_
          intro v15 ht16
          refine e_exact 4 _ (by kernel_rfl) rfl rfl (by kernel_rfl) rfl (ex_x rfl (fun w1 h1 => x_mv rfl)) ?_
          refine e_exact 5 _ (by kernel_rfl) rfl rfl (by kernel_rfl) rfl (ex_x rfl (fun w1 h1 => x_mv rfl)) ?_
          refine e_head 6 (by kernel_rfl) rfl rfl (by kernel_rfl) rfl rfl (vec_rd (S14.at 0 rfl)) rfl rfl Try.runUnderlying25 Try.sizeOf3 (by rw [rp_len hk]; omega) ?_
          intro v17 ht18
          refine e_next [7] (by kernel_rfl) (by kernel_rfl) ⟨⟨_, _, rfl, rfl, ?_⟩, trivial⟩
          refine s_copy S14 0 rfl rfl ht16 rfl rfl ht18 Try.underlying25 size3 rfl ?_
          intro w19 S20 hk21
          refine ⟨hk21, ?_⟩
          refine e_done (by kernel_rfl) ?_
          refine l_x rfl (x_add rfl rfl (by rw [Int.toNat_natCast, rp_take, List.length_replicate, rp_len hk]; omega)) ?_
          refine l_x rfl (x_as rfl) ?_
          refine l_nil ?_
          refine r_inBlock ?_
          exact IH (k + min ((rp z count.toNat k).take k).length ((rp z count.toNat k).length - k)) _ _ (by rw [rp_len hk, rp_take, List.length_replicate]; omega) ⟨rfl, rfl, trivial⟩ ⟨by rw [rp_len hk]; omega, by omega, (by rw [← rp_copy hk]; exact S20)⟩
        · skip
          rw [rp_len hk] at hc37
          have hkc : k = count.toNat := by omega
          subst hkc
          refine r_exit rfl ?_
          refine r_seq ?_
          refine r_region ?_
          refine l_x rfl (x_mv rfl) ?_
          refine l_x rfl (x_as rfl) ?_
          refine l_nil ?_
          refine r_ret (rs := [.tmp 4]) [_] Try.func116 rfl ⟨rfl, trivial⟩ ?_
          exact ⟨by have hS := S1; rw [rp_full] at hS; exact hS.new 0 rfl, S1.le⟩

end Go.Proofs
