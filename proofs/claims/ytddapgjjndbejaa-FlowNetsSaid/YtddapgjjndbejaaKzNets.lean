/-
  The statement of FlowNets: for every input the law returns true, and its arguments read as they did. No condition.
-/
import Derived.Test.YtddapgjjndbejaaKg
import Derived.Test.YtddapgjjndbejaaKi
/-
  Contracts of functions of the program: each by symbolic execution of its text.
-/
namespace Go.Proofs
open Go Go.Vk Go.Vk.Flow

section
variable {N M i lo hi r : Int} {a b : List Arc}
theorem nar_if_len : (if narE N a i lo hi r = 0 then nar a i.toNat lo hi r else []).length ≤ 8000 := by
  split
  · next h => rw [nar_len]; have := (narE_zero.1 h).1.len; omega
  · exact Nat.zero_le _
theorem wot_if_len : (if wotE N a r = 0 then wot a r else []).length ≤ 8000 := by
  split
  · next h => have := (wotE_zero.1 h).1.len; simp [wot]; omega
  · exact Nat.zero_le _
theorem jo_if_len : (if joE N a M b = 0 then a ++ b else []).length ≤ 8000 := by
  split
  · next h =>
    unfold joE at h
    split at h
    · exact absurd h (by assumption)
    · split at h
      · exact absurd h (by assumption)
      · split at h
        · cases h
        · split at h
          · cases h
          · rw [List.length_append]; omega
  · exact Nat.zero_le _
end

set_option maxHeartbeats 4000000 in
/-- couchant/couchantlaw06.FlowNets. -/
theorem lawNets (N : Int) (va : Value) (arcs : List Arc) (M : Int) (vb : Value) (brcs : List Arc) (i lo hi r : Int) (w : World) (hA : Rd EA w va arcs) (hB : Rd EA w vb brcs) :
    Cl Try.prog 12 #[.agg #[.int .i64 N, va], .agg #[.int .i64 M, vb], .int .i64 i, .int .i64 lo, .int .i64 hi, .int .i64 r] w fun v w' => v = .bool true ∧ Le w w' := by
  refine fn_of_run (args := [_, _, _, _, _, _]) 107 Try.func12 rfl rfl rfl fun cs => ?_
  have S := Own.start (X := nob) w
  refine r_seq ?_
  refine r_region ?_
  refine l_box S rfl rfl ?_
  intro b4 w1 S2 hl3
  refine l_box S2 rfl rfl ?_
  intro b8 w5 S6 hl7
  refine l_x rfl (x_as rfl) ?_
  refine l_nil ?_
  refine r_seq ?_
  refine r_seq ?_
  refine r_region ?_
  refine l_x rfl (x_load rfl (ld_blks (S6.blk 0 rfl) Try.isAgg24 Try.sizeOf24 rfl rfl)) ?_
  refine l_call [] [] [_] rfl rfl Try.call18 rfl (c_small _ _ _ _ (hA.le S6.le)) ?_
  rintro _ w9 ⟨rfl, hl11⟩
  have S10 := S6.step hl11
  refine l_x rfl (x_not rfl) ?_
  refine l_x rfl (x_mv rfl) ?_
  refine l_split (d := 28) rfl (fun hg28 => ?_) (fun hg28 => ?_)
  · skip
    refine l_pass rfl ?_
    refine l_pass rfl ?_
    refine l_pass rfl ?_
    refine l_x rfl (x_pick_t rfl rfl) ?_
    refine l_nil ?_
    refine r_true rfl ?_
    refine r_seq ?_
    refine r_region ?_
    refine l_call [] [] [] rfl rfl Try.call19 rfl (c_flowing _) ?_
    rintro _ w12 ⟨rfl, hl14⟩
    have S13 := S10.step hl14
    refine l_x rfl (x_as rfl) ?_
    refine l_nil ?_
    refine r_ret (rs := [.tmp 12]) [_] Try.func12 rfl ⟨rfl, trivial⟩ ?_
    exact ⟨rfl, S13.le⟩
  · skip
    refine l_x rfl (x_load rfl (ld_blks (S10.blk 1 rfl) Try.isAgg24 Try.sizeOf24 rfl rfl)) ?_
    refine l_call [] [] [_] rfl rfl Try.call18 rfl (c_small _ _ _ _ (hB.le S10.le)) ?_
    rintro _ w15 ⟨rfl, hl17⟩
    have S16 := S10.step hl17
    refine l_x rfl (x_not rfl) ?_
    refine l_x rfl (x_pick_f rfl rfl) ?_
    refine l_nil ?_
    refine r_if rfl (fun hc32 => ?_) (fun hc32 => ?_)
    · skip
      refine r_seq ?_
      refine r_region ?_
      refine l_call [] [] [] rfl rfl Try.call19 rfl (c_flowing _) ?_
      rintro _ w18 ⟨rfl, hl20⟩
      have S19 := S16.step hl20
      refine l_x rfl (x_as rfl) ?_
      refine l_nil ?_
      refine r_ret (rs := [.tmp 12]) [_] Try.func12 rfl ⟨rfl, trivial⟩ ?_
      exact ⟨rfl, S19.le⟩
    · skip
      refine r_skip ?_
      refine r_seq ?_
      refine r_region ?_
      refine l_x rfl (x_load rfl (ld_blks (S16.blk 0 rfl) Try.isAgg24 Try.sizeOf24 rfl rfl)) ?_
      refine l_x rfl (x_mv rfl) ?_
      refine l_x rfl (x_mv rfl) ?_
      refine l_x rfl (x_mv rfl) ?_
      refine l_x rfl (x_mv rfl) ?_
      refine l_call [] [] [_, _, _, _, _] rfl rfl Try.call20 rfl (c_Narrow _ _ _ _ _ _ _ _ (hA.le S16.le)) ?_
      rintro _ w21 ⟨vh4021, rfl, hN4021, hl4021⟩
      have S22 := S16.add hl4021 hN4021
      refine l_x rfl (x_mv rfl) ?_
      refine l_x rfl (x_extract rfl rfl) ?_
      refine l_x rfl (x_extract rfl rfl) ?_
      refine l_alloc S22 rfl Try.zeroValue24 rfl ?_
      intro b26 w23 S24 hl25
      refine l_stores (vs := [_, _]) S24 3 rfl rfl rfl rfl (ones_cons rfl (ones_cons (Rd.one (vec_rd (S24.at 2 rfl))) ones_nil)) Try.sizeOf24 (by first | exact Nat.le_refl _ | simp) (splice_all rfl) ?_
      intro w27 S28 hk29
      refine l_x rfl (x_as rfl) ?_
      refine l_nil ?_
      refine r_seq ?_
      refine r_region ?_
      refine l_x rfl (x_load rfl (ld_blks (S28.blk 0 rfl) Try.isAgg24 Try.sizeOf24 rfl rfl)) ?_
      refine l_x rfl (x_mv rfl) ?_
      refine l_x rfl (x_mv rfl) ?_
      refine l_x rfl (x_mv rfl) ?_
      refine l_x rfl (x_mv rfl) ?_
      refine l_call [] [] [_, _, _, _, _] rfl rfl Try.call49 rfl (c_rNarrow _ _ _ _ _ _ _ _ (hA.le S28.le)) ?_
      rintro _ w30 ⟨vh4930, rfl, hN4930, hl4930⟩
      have S31 := S28.add hl4930 hN4930
      refine l_x rfl (x_mv rfl) ?_
      refine l_x rfl (x_extract rfl rfl) ?_
      refine l_x rfl (x_extract rfl rfl) ?_
      refine l_alloc S31 rfl Try.zeroValue24 rfl ?_
      intro b35 w32 S33 hl34
      refine l_stores (vs := [_, _]) S33 5 rfl rfl rfl rfl (ones_cons rfl (ones_cons (Rd.one (vec_rd (S33.at 4 rfl))) ones_nil)) Try.sizeOf24 (by first | exact Nat.le_refl _ | simp) (splice_all rfl) ?_
      intro w36 S37 hk38
      refine l_x rfl (x_as rfl) ?_
      refine l_nil ?_
      refine r_seq ?_
      have S39 := S37.pick (L' := [_, _, _, _, _, _]) [0, 1, 2, 3, 4, 5] (by decide) rfl
      refine r_forget [(2, .int .i64 i), (3, .int .i64 lo), (4, .int .i64 hi), (5, .int .i64 r), (6, .pointer (some ⟨b4, 0, none⟩)), (7, .pointer (some ⟨b8, 0, none⟩)), (13, .pointer (some ⟨b26, 0, none⟩)), (14, .int .i64 (narE N arcs i lo hi r)), (15, .pointer (some ⟨b35, 0, none⟩)), (16, .int .i64 (narE N arcs i lo hi r))] ⟨rfl, rfl, rfl, rfl, rfl, rfl, rfl, rfl, rfl, rfl, trivial⟩ ?_
      intro ρ40
      refine r_region ?_
      refine l_x rfl (x_load rfl (ld_blks (S39.blk 0 rfl) Try.isAgg24 Try.sizeOf24 rfl rfl)) ?_
      refine l_x rfl (x_mv rfl) ?_
      refine l_call [] [] [_, _] rfl rfl Try.call45 rfl (c_Without _ _ _ _ _ (hA.le S39.le)) ?_
      rintro _ w41 ⟨vh5541, rfl, hN5541, hl5541⟩
      have S42 := S39.add hl5541 hN5541
      refine l_x rfl (x_mv rfl) ?_
      refine l_x rfl (x_extract rfl rfl) ?_
      refine l_x rfl (x_extract rfl rfl) ?_
      refine l_alloc S42 rfl Try.zeroValue24 rfl ?_
      intro b46 w43 S44 hl45
      refine l_stores (vs := [_, _]) S44 7 rfl rfl rfl rfl (ones_cons rfl (ones_cons (Rd.one (vec_rd (S44.at 6 rfl))) ones_nil)) Try.sizeOf24 (by first | exact Nat.le_refl _ | simp) (splice_all rfl) ?_
      intro w47 S48 hk49
      refine l_x rfl (x_as rfl) ?_
      refine l_nil ?_
      refine r_seq ?_
      refine r_region ?_
      refine l_x rfl (x_load rfl (ld_blks (S48.blk 0 rfl) Try.isAgg24 Try.sizeOf24 rfl rfl)) ?_
      refine l_x rfl (x_mv rfl) ?_
      refine l_call [] [] [_, _] rfl rfl Try.call50 rfl (c_rWithout _ _ _ _ _ (hA.le S48.le)) ?_
      rintro _ w50 ⟨vh6150, rfl, hN6150, hl6150⟩
      have S51 := S48.add hl6150 hN6150
      refine l_x rfl (x_mv rfl) ?_
      refine l_x rfl (x_extract rfl rfl) ?_
      refine l_x rfl (x_extract rfl rfl) ?_
      refine l_alloc S51 rfl Try.zeroValue24 rfl ?_
      intro b55 w52 S53 hl54
      refine l_stores (vs := [_, _]) S53 9 rfl rfl rfl rfl (ones_cons rfl (ones_cons (Rd.one (vec_rd (S53.at 8 rfl))) ones_nil)) Try.sizeOf24 (by first | exact Nat.le_refl _ | simp) (splice_all rfl) ?_
      intro w56 S57 hk58
      refine l_x rfl (x_as rfl) ?_
      refine l_nil ?_
      refine r_seq ?_
      have S59 := S57.pick (L' := [_, _, _, _, _, _, _, _, _, _]) [0, 1, 2, 3, 4, 5, 6, 7, 8, 9] (by decide) rfl
      refine r_forget [(2, .int .i64 i), (3, .int .i64 lo), (4, .int .i64 hi), (5, .int .i64 r), (6, .pointer (some ⟨b4, 0, none⟩)), (7, .pointer (some ⟨b8, 0, none⟩)), (13, .pointer (some ⟨b26, 0, none⟩)), (14, .int .i64 (narE N arcs i lo hi r)), (15, .pointer (some ⟨b35, 0, none⟩)), (16, .int .i64 (narE N arcs i lo hi r)), (17, .pointer (some ⟨b46, 0, none⟩)), (18, .int .i64 (wotE N arcs r)), (19, .pointer (some ⟨b55, 0, none⟩)), (20, .int .i64 (wotE N arcs r))] ⟨rfl, rfl, rfl, rfl, rfl, rfl, rfl, rfl, rfl, rfl, rfl, rfl, rfl, rfl, trivial⟩ ?_
      intro ρ60
      refine r_region ?_
      refine l_x rfl (x_load rfl (ld_blks (S59.blk 0 rfl) Try.isAgg24 Try.sizeOf24 rfl rfl)) ?_
      refine l_x rfl (x_load rfl (ld_blks (S59.blk 1 rfl) Try.isAgg24 Try.sizeOf24 rfl rfl)) ?_
      refine l_call [] [] [_, _] rfl rfl Try.call51 rfl (c_Join _ _ _ _ _ _ _ (hA.le S59.le) (hB.le S59.le)) ?_
      rintro _ w61 ⟨vh6761, rfl, hN6761, hl6761⟩
      have S62 := S59.add hl6761 hN6761
      refine l_x rfl (x_mv rfl) ?_
      refine l_x rfl (x_extract rfl rfl) ?_
      refine l_x rfl (x_extract rfl rfl) ?_
      refine l_alloc S62 rfl Try.zeroValue24 rfl ?_
      intro b66 w63 S64 hl65
      refine l_stores (vs := [_, _]) S64 11 rfl rfl rfl rfl (ones_cons rfl (ones_cons (Rd.one (vec_rd (S64.at 10 rfl))) ones_nil)) Try.sizeOf24 (by first | exact Nat.le_refl _ | simp) (splice_all rfl) ?_
      intro w67 S68 hk69
      refine l_x rfl (x_as rfl) ?_
      refine l_nil ?_
      refine r_seq ?_
      refine r_region ?_
      refine l_x rfl (x_load rfl (ld_blks (S68.blk 0 rfl) Try.isAgg24 Try.sizeOf24 rfl rfl)) ?_
      refine l_x rfl (x_load rfl (ld_blks (S68.blk 1 rfl) Try.isAgg24 Try.sizeOf24 rfl rfl)) ?_
      refine l_call [] [] [_, _] rfl rfl Try.call52 rfl (c_rJoin _ _ _ _ _ _ _ (hA.le S68.le) (hB.le S68.le)) ?_
      rintro _ w70 ⟨vh7370, rfl, hN7370, hl7370⟩
      have S71 := S68.add hl7370 hN7370
      refine l_x rfl (x_mv rfl) ?_
      refine l_x rfl (x_extract rfl rfl) ?_
      refine l_x rfl (x_extract rfl rfl) ?_
      refine l_alloc S71 rfl Try.zeroValue24 rfl ?_
      intro b75 w72 S73 hl74
      refine l_stores (vs := [_, _]) S73 13 rfl rfl rfl rfl (ones_cons rfl (ones_cons (Rd.one (vec_rd (S73.at 12 rfl))) ones_nil)) Try.sizeOf24 (by first | exact Nat.le_refl _ | simp) (splice_all rfl) ?_
      intro w76 S77 hk78
      refine l_x rfl (x_as rfl) ?_
      refine l_nil ?_
      refine r_seq ?_
      have S79 := S77.pick (L' := [_, _, _, _, _, _, _, _, _, _, _, _, _, _]) [0, 1, 2, 3, 4, 5, 6, 7, 8, 9, 10, 11, 12, 13] (by decide) rfl
      refine r_forget [(2, .int .i64 i), (3, .int .i64 lo), (4, .int .i64 hi), (5, .int .i64 r), (6, .pointer (some ⟨b4, 0, none⟩)), (7, .pointer (some ⟨b8, 0, none⟩)), (13, .pointer (some ⟨b26, 0, none⟩)), (14, .int .i64 (narE N arcs i lo hi r)), (15, .pointer (some ⟨b35, 0, none⟩)), (16, .int .i64 (narE N arcs i lo hi r)), (17, .pointer (some ⟨b46, 0, none⟩)), (18, .int .i64 (wotE N arcs r)), (19, .pointer (some ⟨b55, 0, none⟩)), (20, .int .i64 (wotE N arcs r)), (21, .pointer (some ⟨b66, 0, none⟩)), (22, .int .i64 (joE N arcs M brcs)), (23, .pointer (some ⟨b75, 0, none⟩)), (24, .int .i64 (joE N arcs M brcs))] ⟨rfl, rfl, rfl, rfl, rfl, rfl, rfl, rfl, rfl, rfl, rfl, rfl, rfl, rfl, rfl, rfl, rfl, rfl, trivial⟩ ?_
      intro ρ80
      refine r_region ?_
      refine l_call [] [] [] rfl rfl Try.call19 rfl (c_flowing _) ?_
      rintro _ w81 ⟨rfl, hl83⟩
      have S82 := S79.step hl83
      refine l_x rfl (x_mv rfl) ?_
      refine l_x rfl (x_mv rfl) ?_
      refine l_x rfl (x_mv rfl) ?_
      refine l_x rfl (x_eql rfl rfl) ?_
      refine l_x rfl (x_pick_t rfl rfl) ?_
      refine l_x rfl (x_mv rfl) ?_
      refine l_splitd (d := 82) rfl (fun hg82 => ?_) (fun hg82 => ?_)
      · skip
        refine l_x rfl (x_mv rfl) ?_
        refine l_x rfl (x_mv rfl) ?_
        refine l_x rfl (x_eql rfl rfl) ?_
        refine l_x rfl (x_pick_t rfl rfl) ?_
        refine l_x rfl (x_mv rfl) ?_
        refine l_splitd (d := 87) rfl (fun hg87 => ?_) (fun hg87 => ?_)
        · skip
          refine l_x rfl (x_mv rfl) ?_
          refine l_x rfl (x_mv rfl) ?_
          refine l_x rfl (x_eql rfl rfl) ?_
          refine l_x rfl (x_pick_t rfl rfl) ?_
          refine l_x rfl (x_mv rfl) ?_
          refine l_splitd (d := 92) rfl (fun hg92 => ?_) (fun hg92 => ?_)
          · skip
            refine l_x rfl (x_load rfl (ld_blks (S82.blk 3 rfl) Try.isAgg24 Try.sizeOf24 rfl rfl)) ?_
            refine l_x rfl (x_load rfl (ld_blks (S82.blk 5 rfl) Try.isAgg24 Try.sizeOf24 rfl rfl)) ?_
            refine l_call [] [] [_, _] rfl rfl Try.call24 rfl (c_SameNet _ _ _ _ _ _ (by have := nar_if_len (N := N) (a := arcs) (i := i) (lo := lo) (hi := hi) (r := r); omega) _ (vec_rd (S82.at 2 rfl)) (vec_rd (S82.at 4 rfl))) ?_
            rintro _ w84 ⟨rfl, hl86⟩
            have S85 := S82.step hl86
            refine l_x rfl (x_pick_t rfl rfl) ?_
            refine l_x rfl (x_mv rfl) ?_
            refine l_splitd (d := 97) rfl (fun hg97 => ?_) (fun hg97 => ?_)
            · skip
              refine l_x rfl (x_load rfl (ld_blks (S85.blk 7 rfl) Try.isAgg24 Try.sizeOf24 rfl rfl)) ?_
              refine l_x rfl (x_load rfl (ld_blks (S85.blk 9 rfl) Try.isAgg24 Try.sizeOf24 rfl rfl)) ?_
              refine l_call [] [] [_, _] rfl rfl Try.call24 rfl (c_SameNet _ _ _ _ _ _ (by have := wot_if_len (N := N) (a := arcs) (r := r); omega) _ (vec_rd (S85.at 6 rfl)) (vec_rd (S85.at 8 rfl))) ?_
              rintro _ w87 ⟨rfl, hl89⟩
              have S88 := S85.step hl89
              refine l_x rfl (x_pick_t rfl rfl) ?_
              refine l_x rfl (x_mv rfl) ?_
              refine l_splitd (d := 102) rfl (fun hg102 => ?_) (fun hg102 => ?_)
              · skip
                refine l_x rfl (x_load rfl (ld_blks (S88.blk 11 rfl) Try.isAgg24 Try.sizeOf24 rfl rfl)) ?_
                refine l_x rfl (x_load rfl (ld_blks (S88.blk 13 rfl) Try.isAgg24 Try.sizeOf24 rfl rfl)) ?_
                refine l_call [] [] [_, _] rfl rfl Try.call24 rfl (c_SameNet _ _ _ _ _ _ (by have := jo_if_len (N := N) (M := M) (a := arcs) (b := brcs); omega) _ (vec_rd (S88.at 10 rfl)) (vec_rd (S88.at 12 rfl))) ?_
                rintro _ w90 ⟨rfl, hl92⟩
                have S91 := S88.step hl92
                refine l_x rfl (x_pick_t rfl rfl) ?_
                refine l_x rfl (x_as rfl) ?_
                refine l_nil ?_
                refine r_ret (rs := [.tmp 12]) [_] Try.func12 rfl ⟨rfl, trivial⟩ ?_
                exact ⟨congrArg Value.bool (decide_eq_true (by exact ⟨rfl, rfl⟩)), S91.le⟩
              · exact absurd ⟨rfl, rfl⟩ hg102
            · exact absurd ⟨rfl, rfl⟩ hg97
          · exact absurd rfl hg92
        · exact absurd rfl hg87
      · exact absurd rfl hg82

end Go.Proofs

/-
  The statement of FlowNets: for every input the law returns true, and its arguments read as they did. No condition.
-/
namespace Go.Proofs
open Go Go.Vk Go.Vk.Flow

open Go.ChangeShapes Go.WideShapes Go.RowKit Go.Joins
namespace Ytddapgjjndbejaa
set_option maxRecDepth 100000 in
theorem liftedNets (os : Os) (started : os.Started) (H : Type) (enc : TypeId × Value → H) :
    ReturnsInHanded {} Try.checked os 12 .any (Rows.flowNetsSpec.pre6 enc Try.prog Try.f12 Rows.flowNetsRow.domain false) (Rows.flowNetsSpec.post enc Try.prog Try.f12 false true false false) := by
  refine returnsInHanded_of_change (C := Try.checked) ownT started (by kernel_rfl) Try.func12
    (ChangeSpec.witness6 (enc := enc) (C := Try.checked) false ⟨#[], #[.agg #[.int .i64 0, .slice none 0 0], .agg #[.int .i64 0, .slice none 0 0], .int .i64 0, .int .i64 0, .int .i64 0, .int .i64 0], []⟩ 8 (by kernel_rfl) (by kernel_rfl) (by kernel_rfl) (by kernel_rfl)) ?_
  intro W base args ds gs before hval0 hW hcnd _
  have hval : ∀ (j : Nat) t v, Try.f12.params[j]? = some t → args[j]? = some v → Value.okWide Try.prog W .any base t v := hval0
  have hW' := hW
  obtain ⟨p, q, hA0, hV, rfl, hfz, hnd⟩ := hW
  have hA : DataW.TrodAll enc Try.prog W 0 (fun _ => true) true Try.f12.params.toList args.toList ds p := hA0
  rw [Try.params12] at hA hval
  obtain ⟨v0, vs0, d0, ds0, p0, q0, hargs, rfl, rfl, h0, r0⟩ := trodAll_cons hA
  obtain ⟨v1, vs1, d1, ds1, p1, q1, rfl, rfl, rfl, h1, r1⟩ := trodAll_cons r0
  obtain ⟨v2, vs2, d2, ds2, p2, q2, rfl, rfl, rfl, h2, r2⟩ := trodAll_cons r1
  obtain ⟨v3, vs3, d3, ds3, p3, q3, rfl, rfl, rfl, h3, r3⟩ := trodAll_cons r2
  obtain ⟨v4, vs4, d4, ds4, p4, q4, rfl, rfl, rfl, h4, r4⟩ := trodAll_cons r3
  obtain ⟨v5, vs5, d5, ds5, p5, q5, rfl, rfl, rfl, h5, r5⟩ := trodAll_cons r4
  obtain ⟨rfl, rfl, rfl⟩ := trodAll_nil r5
  obtain rfl : args = #[v0, v1, v2, v3, v4, v5] := by cases args; simp_all
  obtain ⟨rfl, rfl⟩ := trodVars_none hV
  obtain ⟨N0, va0, arcs0, rfl, hQ0, hm0⟩ := openNet (hval 0 24 v0 rfl rfl) h0
  obtain ⟨N1, va1, arcs1, rfl, hQ1, hm1⟩ := openNet (hval 1 24 v1 rfl rfl) h1
  obtain ⟨i2, rfl, rfl, rfl, w2⟩ := open_int Try.underlying3 (hval 2 3 v2 rfl rfl) h2
  obtain ⟨i3, rfl, rfl, rfl, w3⟩ := open_int Try.underlying3 (hval 3 3 v3 rfl rfl) h3
  obtain ⟨i4, rfl, rfl, rfl, w4⟩ := open_int Try.underlying3 (hval 4 3 v4 rfl rfl) h4
  obtain ⟨i5, rfl, rfl, rfl, w5⟩ := open_int Try.underlying3 (hval 5 3 v5 rfl rfl) h5
  clear hA0 hval0
  exact (lawNets N0 va0 arcs0 N1 va1 arcs1 i2 i3 i4 i5 W hQ0 hQ1).mono fun v W' ⟨hv, hle⟩ => by
    subst hv
    exact post_law hW' laidT (by rw [Try.params12]; exact fun t ht => by revert t; decide +kernel) (by kernel_rfl) Try.underlying4 rfl rfl rfl rfl hle
/-- FlowNets: whatever the input, the law returns true, and its arguments read as they did. -/
theorem flowNets : Rows.FlowNetsSaid :=
  OpenClaim.holds_of_wide 12 Try.f12 rfl rfl rfl rfl rfl rfl rfl ⟨rfl, rfl, rfl, rfl, rfl⟩ rfl rfl rfl rfl rfl (by kernel_rfl) Try.func12 (by kernel_rfl)
    (of_decide_eq_true (by kernel_rfl)) (by unfold Func.isWrapper; rw [if_neg (of_decide_eq_false (by kernel_rfl))]; exact ⟨rfl, rfl⟩)
    (fun os started H enc _ => liftedNets os started H enc)
#print axioms flowNets
end Ytddapgjjndbejaa

end Go.Proofs
