/-
  The statement of FlowObstacles: for every input the law returns true, and its arguments read as they did. No condition.
-/
import Derived.Test.YtddapgjjndbejaaKg
import Derived.Test.YtddapgjjndbejaaKi
/-
  Contracts of functions of the program: each by symbolic execution of its text.
-/
namespace Go.Proofs
open Go Go.Vk Go.Vk.Flow

set_option maxHeartbeats 4000000 in
/-- couchant/couchantlaw06.FlowObstacles. -/
theorem lawObstacles (N : Int) (va : Value) (arcs : List Arc) (A : Int) (vn : Value) (ns : List Int) (w : World) (hA : Rd EA w va arcs) (Hn : Rd EI w vn ns) :
    Cl Try.prog 5 #[.agg #[.int .i64 N, va], .agg #[.int .i64 A, vn]] w fun v w' => v = .bool true ∧ Le w w' := by
  refine fn_of_run (args := [_, _]) 68 Try.func5 rfl rfl rfl fun cs => ?_
  have S := Own.start (X := nob) w
  refine r_seq ?_
  refine r_region ?_
  refine l_box S rfl rfl ?_
  intro b4 w1 S2 hl3
  refine l_box S2 rfl rfl ?_
  intro b8 w5 S6 hl7
  refine l_x rfl (x_as rfl) ?_
  refine l_nil ?_
  refine r_seq ?_
  refine r_seq ?_
  refine r_region ?_
  refine l_x rfl (x_load rfl (ld_blks (S6.blk 0 rfl) Try.isAgg24 Try.sizeOf24 rfl rfl)) ?_
  refine l_call [] [] [_] rfl rfl Try.call18 rfl (c_small _ _ _ _ (hA.le S6.le)) ?_
  rintro _ w9 ⟨rfl, hl11⟩
  have S10 := S6.step hl11
  refine l_x rfl (x_not rfl) ?_
  refine l_x rfl (x_mv rfl) ?_
  refine l_split (d := 16) rfl (fun hg16 => ?_) (fun hg16 => ?_)
  · skip
    refine l_pass rfl ?_
    refine l_pass rfl ?_
    refine l_pass rfl ?_
    refine l_pass rfl ?_
    refine l_x rfl (x_pick_t rfl rfl) ?_
    refine l_nil ?_
    refine r_true rfl ?_
    refine r_seq ?_
    refine r_region ?_
    refine l_call [] [] [] rfl rfl Try.call19 rfl (c_flowing _) ?_
    rintro _ w12 ⟨rfl, hl14⟩
    have S13 := S10.step hl14
    refine l_x rfl (x_as rfl) ?_
    refine l_nil ?_
    refine r_ret (rs := [.tmp 4]) [_] Try.func5 rfl ⟨rfl, trivial⟩ ?_
    exact ⟨rfl, S13.le⟩
  · skip
    refine l_x rfl (x_fieldAddr rfl Try.runUnderlying43 rfl Try.sizeOf25 (by decide)) ?_
    refine l_x rfl (x_load rfl (ld_blk (S10.blk 1 rfl) Try.isAgg25 rfl)) ?_
    refine l_x rfl (x_len (Hn.le S10.le) rfl Try.runUnderlying25) ?_
    refine l_x rfl (x_gtr rfl rfl) ?_
    refine l_x rfl (x_pick_f rfl rfl) ?_
    refine l_nil ?_
    refine r_ifd rfl (fun hc21 => ?_) (fun hc21 => ?_)
    · skip
      refine r_seq ?_
      refine r_region ?_
      refine l_call [] [] [] rfl rfl Try.call19 rfl (c_flowing _) ?_
      rintro _ w15 ⟨rfl, hl17⟩
      have S16 := S10.step hl17
      refine l_x rfl (x_as rfl) ?_
      refine l_nil ?_
      refine r_ret (rs := [.tmp 4]) [_] Try.func5 rfl ⟨rfl, trivial⟩ ?_
      exact ⟨rfl, S16.le⟩
    · skip
      refine r_skip ?_
      refine r_seq ?_
      refine r_region ?_
      refine l_x rfl (x_load rfl (ld_blks (S10.blk 0 rfl) Try.isAgg24 Try.sizeOf24 rfl rfl)) ?_
      refine l_x rfl (x_load rfl (ld_blks (S10.blk 1 rfl) Try.isAgg43 Try.sizeOf43 rfl rfl)) ?_
      refine l_call [] [] [_, _] rfl rfl Try.call25 rfl (c_CheckObstacle _ _ _ _ _ _ (by first | omega | (rw [unit_length]; omega) | (rw [List.length_map]; omega) | decide) _ (hA.le S10.le) (Hn.le S10.le)) ?_
      rintro _ w18 ⟨rfl, hl2618⟩
      have S19 := S10.step hl2618
      refine l_x rfl (x_mv rfl) ?_
      refine l_x rfl (x_extract rfl rfl) ?_
      refine l_x rfl (x_extract rfl rfl) ?_
      refine l_x rfl (x_as rfl) ?_
      refine l_x rfl (x_as rfl) ?_
      refine l_nil ?_
      refine r_seq ?_
      refine r_region ?_
      refine l_x rfl (x_load rfl (ld_blks (S19.blk 0 rfl) Try.isAgg24 Try.sizeOf24 rfl rfl)) ?_
      refine l_x rfl (x_load rfl (ld_blks (S19.blk 1 rfl) Try.isAgg43 Try.sizeOf43 rfl rfl)) ?_
      refine l_call [] [] [_, _] rfl rfl Try.call26 rfl (c_rCheckObstacle _ _ _ _ _ _ (by first | omega | (rw [unit_length]; omega) | (rw [List.length_map]; omega) | decide) _ (hA.le S19.le) (Hn.le S19.le)) ?_
      rintro _ w20 ⟨_, _, rfl, hl3220, rfl, rfl⟩
      have S21 := S19.step hl3220
      refine l_x rfl (x_mv rfl) ?_
      refine l_x rfl (x_extract rfl rfl) ?_
      refine l_x rfl (x_extract rfl rfl) ?_
      refine l_x rfl (x_as rfl) ?_
      refine l_x rfl (x_as rfl) ?_
      refine l_nil ?_
      refine r_seq ?_
      refine r_region ?_
      refine l_x rfl (x_load rfl (ld_blks (S21.blk 0 rfl) Try.isAgg24 Try.sizeOf24 rfl rfl)) ?_
      refine l_x rfl (x_load rfl (ld_blks (S21.blk 1 rfl) Try.isAgg43 Try.sizeOf43 rfl rfl)) ?_
      refine l_call [] [] [_, _] rfl rfl Try.call27 rfl (c_ObstacleRecords _ _ _ _ _ _ (by first | omega | (rw [unit_length]; omega) | (rw [List.length_map]; omega) | decide) _ (hA.le S21.le) (Hn.le S21.le)) ?_
      rintro _ w22 ⟨s3822, rfl, hN3822, hl3822⟩
      have S23 := S21.add hl3822 hN3822
      refine l_x rfl (x_mv rfl) ?_
      refine l_x rfl (x_extract rfl rfl) ?_
      refine l_x rfl (x_extract rfl rfl) ?_
      refine l_x rfl (x_as rfl) ?_
      refine l_x rfl (x_as rfl) ?_
      refine l_nil ?_
      refine r_seq ?_
      refine r_region ?_
      refine l_x rfl (x_load rfl (ld_blks (S23.blk 0 rfl) Try.isAgg24 Try.sizeOf24 rfl rfl)) ?_
      refine l_x rfl (x_load rfl (ld_blks (S23.blk 1 rfl) Try.isAgg43 Try.sizeOf43 rfl rfl)) ?_
      refine l_call [] [] [_, _] rfl rfl Try.call28 rfl (c_rObstacleRecords _ _ _ _ _ _ (by first | omega | (rw [unit_length]; omega) | (rw [List.length_map]; omega) | decide) _ (hA.le S23.le) (Hn.le S23.le)) ?_
      rintro _ w24 ⟨s4424, rfl, hN4424, hl4424⟩
      have S25 := S23.add hl4424 hN4424
      refine l_x rfl (x_mv rfl) ?_
      refine l_x rfl (x_extract rfl rfl) ?_
      refine l_x rfl (x_extract rfl rfl) ?_
      refine l_x rfl (x_as rfl) ?_
      refine l_x rfl (x_as rfl) ?_
      refine l_nil ?_
      refine r_seq ?_
      refine r_region ?_
      refine l_call [] [] [] rfl rfl Try.call19 rfl (c_flowing _) ?_
      rintro _ w26 ⟨rfl, hl28⟩
      have S27 := S25.step hl28
      refine l_x rfl (x_mv rfl) ?_
      refine l_x rfl (x_mv rfl) ?_
      refine l_x rfl (x_mv rfl) ?_
      refine l_x rfl (x_beq Try.runUnderlying4 rfl rfl) ?_
      refine l_x rfl (x_pick_t rfl rfl) ?_
      refine l_x rfl (x_mv rfl) ?_
      refine l_split (d := 53) rfl (fun hg53 => ?_) (fun hg53 => ?_)
      · skip
        refine l_x rfl (x_mv rfl) ?_
        refine l_x rfl (x_mv rfl) ?_
        refine l_x rfl (x_eql rfl rfl) ?_
        refine l_x rfl (x_pick_t rfl rfl) ?_
        refine l_x rfl (x_mv rfl) ?_
        refine l_splitd (d := 58) rfl (fun hg58 => ?_) (fun hg58 => ?_)
        · skip
          refine l_x rfl (x_mv rfl) ?_
          refine l_x rfl (x_mv rfl) ?_
          refine l_x rfl (x_eql rfl rfl) ?_
          refine l_x rfl (x_pick_t rfl rfl) ?_
          refine l_x rfl (x_mv rfl) ?_
          refine l_splitd (d := 63) rfl (fun hg63 => ?_) (fun hg63 => ?_)
          · skip
            refine l_x rfl (x_mv rfl) ?_
            refine l_x rfl (x_mv rfl) ?_
            refine l_call [] [] [_, _] rfl rfl Try.call29 rfl (c_SameInts _ _ _ _ (by have := orec_if_len (N := N) (arcs := arcs) (A := A) (ns := ns) (hind N arcs A ns); omega) _ (vec_rd (S27.at 2 rfl)) (vec_rd (S27.at 3 rfl))) ?_
            rintro _ w29 ⟨rfl, hl31⟩
            have S30 := S27.step hl31
            refine l_x rfl (x_pick_t rfl rfl) ?_
            refine l_x rfl (x_as rfl) ?_
            refine l_nil ?_
            refine r_ret (rs := [.tmp 4]) [_] Try.func5 rfl ⟨rfl, trivial⟩ ?_
            exact ⟨congrArg Value.bool (decide_eq_true (by rfl)), S30.le⟩
          · exact absurd rfl hg63
        · exact absurd rfl hg58
      · simp at hg53

end Go.Proofs

/-
  The statement of FlowObstacles: for every input the law returns true, and its arguments read as they did. No condition.
-/
namespace Go.Proofs
open Go Go.Vk Go.Vk.Flow

open Go.ChangeShapes Go.WideShapes Go.RowKit Go.Joins
namespace Ytddapgjjndbejaa
set_option maxRecDepth 100000 in
theorem liftedObstacles (os : Os) (started : os.Started) (H : Type) (enc : TypeId × Value → H) :
    ReturnsInHanded {} Try.checked os 5 .any (Rows.flowObstaclesSpec.pre6 enc Try.prog Try.f5 Rows.flowObstaclesRow.domain false) (Rows.flowObstaclesSpec.post enc Try.prog Try.f5 false true false false) := by
  refine returnsInHanded_of_change (C := Try.checked) ownT started (by kernel_rfl) Try.func5
    (ChangeSpec.witness6 (enc := enc) (C := Try.checked) false ⟨#[], #[.agg #[.int .i64 0, .slice none 0 0], .agg #[.int .i64 0, .slice none 0 0]], []⟩ 8 (by kernel_rfl) (by kernel_rfl) (by kernel_rfl) (by kernel_rfl)) ?_
  intro W base args ds gs before hval0 hW hcnd _
  have hval : ∀ (j : Nat) t v, Try.f5.params[j]? = some t → args[j]? = some v → Value.okWide Try.prog W .any base t v := hval0
  have hW' := hW
  obtain ⟨p, q, hA0, hV, rfl, hfz, hnd⟩ := hW
  have hA : DataW.TrodAll enc Try.prog W 0 (fun _ => true) true Try.f5.params.toList args.toList ds p := hA0
  rw [Try.params5] at hA hval
  obtain ⟨v0, vs0, d0, ds0, p0, q0, hargs, rfl, rfl, h0, r0⟩ := trodAll_cons hA
  obtain ⟨v1, vs1, d1, ds1, p1, q1, rfl, rfl, rfl, h1, r1⟩ := trodAll_cons r0
  obtain ⟨rfl, rfl, rfl⟩ := trodAll_nil r1
  obtain rfl : args = #[v0, v1] := by cases args; simp_all
  obtain ⟨rfl, rfl⟩ := trodVars_none hV
  obtain ⟨N0, va0, arcs0, rfl, hQ0, hm0⟩ := openNet (hval 0 24 v0 rfl rfl) h0
  obtain ⟨A1, vn1, ns1, rfl, hQ1, hm1⟩ := openObs (hval 1 43 v1 rfl rfl) h1
  clear hA0 hval0
  exact (lawObstacles N0 va0 arcs0 A1 vn1 ns1 W hQ0 hQ1).mono fun v W' ⟨hv, hle⟩ => by
    subst hv
    exact post_law hW' laidT (by rw [Try.params5]; exact fun t ht => by revert t; decide +kernel) (by kernel_rfl) Try.underlying4 rfl rfl rfl rfl hle
/-- FlowObstacles: whatever the input, the law returns true, and its arguments read as they did. -/
theorem flowObstacles : Rows.FlowObstaclesSaid :=
  OpenClaim.holds_of_wide 5 Try.f5 rfl rfl rfl rfl rfl rfl rfl ⟨rfl, rfl, rfl, rfl, rfl⟩ rfl rfl rfl rfl rfl (by kernel_rfl) Try.func5 (by kernel_rfl)
    (of_decide_eq_true (by kernel_rfl)) (by unfold Func.isWrapper; rw [if_neg (of_decide_eq_false (by kernel_rfl))]; exact ⟨rfl, rfl⟩)
    (fun os started H enc _ => liftedObstacles os started H enc)
#print axioms flowObstacles
end Ytddapgjjndbejaa

end Go.Proofs
