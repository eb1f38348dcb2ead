/-
  The statement of FlowFixed: for every input the law returns true, and its arguments read as they did. No condition.
-/
import Derived.Test.YtddapgjjndbejaaKhFixed
import Derived.Test.YtddapgjjndbejaaKgFixed
/-
  Contracts of functions of the program: each by symbolic execution of its text.
-/
namespace Go.Proofs
open Go Go.Vk Go.Vk.Flow

set_option maxHeartbeats 4000000 in
/-- couchant/couchantlaw06.FlowFixed. -/
theorem lawFixed (N : Int) (va : Value) (arcs : List Arc) (w : World) (hA : Rd EA w va arcs) :
    Cl Try.prog 17 #[.agg #[.int .i64 N, va]] w fun v w' => v = .bool true ∧ Le w w' := by
  refine fn_of_run (args := [_]) 91 Try.func17 rfl rfl rfl fun cs => ?_
  have S := Own.start (X := nob) w
  refine r_seq ?_
  refine r_region ?_
  refine l_box S rfl rfl ?_
  intro b4 w1 S2 hl3
  refine l_x rfl (x_as rfl) ?_
  refine l_nil ?_
  refine r_seq ?_
  refine r_seq ?_
  refine r_region ?_
  refine l_x rfl (x_fieldAddr rfl Try.runUnderlying24 rfl Try.sizeOf22 (by decide)) ?_
  refine l_x rfl (x_load rfl (ld_blk (S2.blk 0 rfl) Try.isAgg22 rfl)) ?_
  refine l_x rfl (x_len (hA.le S2.le) rfl Try.runUnderlying22) ?_
  refine l_x rfl (x_gtr rfl rfl) ?_
  refine l_x rfl (x_mv rfl) ?_
  refine l_splitd (d := 17) rfl (fun hg17 => ?_) (fun hg17 => ?_)
  · skip
    refine l_pass rfl ?_
    refine l_pass rfl ?_
    refine l_pass rfl ?_
    refine l_x rfl (x_pick_t rfl rfl) ?_
    refine l_nil ?_
    refine r_true rfl ?_
    refine r_seq ?_
    refine r_region ?_
    refine l_call [] [] [] rfl rfl Try.call19 rfl (c_flowing _) ?_
    rintro _ w5 ⟨rfl, hl7⟩
    have S6 := S2.step hl7
    refine l_x rfl (x_as rfl) ?_
    refine l_nil ?_
    refine r_ret (rs := [.tmp 2]) [_] Try.func17 rfl ⟨rfl, trivial⟩ ?_
    exact ⟨rfl, S6.le⟩
  · skip
    refine l_x rfl (x_fieldAddr rfl Try.runUnderlying24 rfl Try.sizeOf3 (by decide)) ?_
    refine l_x rfl (x_load rfl (ld_blk (S2.blk 0 rfl) Try.isAgg3 rfl)) ?_
    refine l_x rfl (x_gtr rfl rfl) ?_
    refine l_x rfl (x_pick_f rfl rfl) ?_
    refine l_nil ?_
    refine r_ifd rfl (fun hc21 => ?_) (fun hc21 => ?_)
    · skip
      refine r_seq ?_
      refine r_region ?_
      refine l_call [] [] [] rfl rfl Try.call19 rfl (c_flowing _) ?_
      rintro _ w8 ⟨rfl, hl10⟩
      have S9 := S2.step hl10
      refine l_x rfl (x_as rfl) ?_
      refine l_nil ?_
      refine r_ret (rs := [.tmp 2]) [_] Try.func17 rfl ⟨rfl, trivial⟩ ?_
      exact ⟨rfl, S9.le⟩
    · skip
      refine r_skip ?_
      refine r_seq ?_
      refine r_region ?_
      refine l_x rfl (x_load rfl (ld_blks (S2.blk 0 rfl) Try.isAgg24 Try.sizeOf24 rfl rfl)) ?_
      refine l_call [] [] [_] rfl rfl Try.call60 rfl (c_Fixed _ _ _ _ (hA.le S2.le)) ?_
      rintro _ w11 ⟨s2511, l2511, e2511, rfl, hN2511, hl2511, hR2511⟩
      have S12 := S2.add hl2511 hN2511
      have hFx := hR2511
      refine l_x rfl (x_mv rfl) ?_
      refine l_x rfl (x_extract rfl rfl) ?_
      refine l_x rfl (x_extract rfl rfl) ?_
      refine l_x rfl (x_as rfl) ?_
      refine l_x rfl (x_as rfl) ?_
      refine l_nil ?_
      refine r_seq ?_
      refine r_seq ?_
      refine r_region ?_
      refine l_x rfl (x_mv rfl) ?_
      refine l_x rfl (x_neq rfl rfl) ?_
      refine l_nil ?_
      refine r_ifd rfl (fun hc29 => ?_) (fun hc29 => ?_)
      · skip
        refine r_seq ?_
        refine r_region ?_
        refine l_x rfl (x_load rfl (ld_blks (S12.blk 0 rfl) Try.isAgg24 Try.sizeOf24 rfl rfl)) ?_
        refine l_call [] [] [_] rfl rfl Try.call43 rfl (c_Some _ _ _ _ (hA.le S12.le)) ?_
        rintro _ w13 ⟨vx3213, x3213, e3213, rfl, hN3213, hl3213, hR3213⟩
        have S14 := S12.add hl3213 hN3213
        obtain ⟨h1, h2⟩ := hFx.some hR3213 hc29
        refine l_x rfl (x_mv rfl) ?_
        refine l_x rfl (x_extract rfl rfl) ?_
        refine l_x rfl (x_extract rfl rfl) ?_
        refine l_x rfl (x_as rfl) ?_
        refine l_x rfl (x_as rfl) ?_
        refine l_nil ?_
        refine r_seq ?_
        refine r_region ?_
        refine l_call [] [] [] rfl rfl Try.call19 rfl (c_flowing _) ?_
        rintro _ w15 ⟨rfl, hl17⟩
        have S16 := S14.step hl17
        refine l_x rfl (x_mv rfl) ?_
        refine l_x rfl (x_mv rfl) ?_
        refine l_x rfl (x_len (vec_rd (S16.at 1 rfl)) rfl Try.runUnderlying25) ?_
        refine l_x rfl (x_eql rfl rfl) ?_
        refine l_x rfl (x_pick_t rfl rfl) ?_
        refine l_x rfl (x_mv rfl) ?_
        refine l_splitd (d := 41) rfl (fun hg41 => ?_) (fun hg41 => ?_)
        · skip
          refine l_x rfl (x_mv rfl) ?_
          refine l_x rfl (x_mv rfl) ?_
          refine l_x rfl (x_eql rfl rfl) ?_
          refine l_x rfl (x_pick_t rfl rfl) ?_
          refine l_x rfl (x_as rfl) ?_
          refine l_nil ?_
          refine r_ret (rs := [.tmp 2]) [_] Try.func17 rfl ⟨rfl, trivial⟩ ?_
          exact ⟨congrArg Value.bool (decide_eq_true (by first | exact h2 | rfl)), S16.le⟩
        · exact absurd (congrArg Int.ofNat h1) hg41
      · skip
        have he0 : e2511 = 0 := Decidable.not_not.1 hc29
        subst he0
        obtain ⟨x, hV, hx, rfl⟩ := hFx.yes' rfl
        have hLx := hV.len
        refine r_skip ?_
        refine r_seq ?_
        refine r_region ?_
        refine l_x rfl (x_as rfl) ?_
        refine l_nil ?_
        refine r_seq ?_
        refine r_seq ?_
        refine r_region ?_
        refine l_x rfl (x_as rfl) ?_
        refine l_nil ?_
        refine r_block ?_
        refine r_loop (G := Nat) (fun i => arcs.length - i) (fun i => [(1, .pointer (some ⟨b4, 0, none⟩)), (3, s2511), (7, .int .i64 (stk arcs x i).length), (8, .int .i64 i)]) (fun i w' => (i ≤ arcs.length) ∧ Own nob w w' [blk b4 [.int .i64 N, va] 24, vec EI s2511 (stk arcs x arcs.length)]) 0 ⟨rfl, rfl, rfl, rfl, trivial⟩ ⟨Nat.zero_le _, (S12.take 2)⟩ ?_
        rintro i ρ w1 ⟨hi, S1⟩ IH
        refine r_seq ?_
        refine r_seq ?_
        refine r_region ?_
        refine l_x rfl (x_mv rfl) ?_
        refine l_x rfl (x_fieldAddr rfl Try.runUnderlying24 rfl Try.sizeOf22 (by decide)) ?_
        refine l_x rfl (x_load rfl (ld_blk (S1.blk 0 rfl) Try.isAgg22 rfl)) ?_
        refine l_x rfl (x_len (hA.le S1.le) rfl Try.runUnderlying22) ?_
        refine l_x rfl (x_lss rfl rfl) ?_
        refine l_nil ?_
        refine r_ifd rfl (fun hc50 => ?_) (fun hc50 => ?_)
        · skip
          have hin : i < arcs.length := by omega
          have hsk := stk_len arcs x i
          refine r_skip ?_
          refine r_seq ?_
          refine r_block ?_
          refine r_seq ?_
          refine r_region ?_
          refine l_x rfl (x_load rfl (ld_blks (S1.blk 0 rfl) Try.isAgg24 Try.sizeOf24 rfl rfl)) ?_
          refine l_x rfl (x_mv rfl) ?_
          refine l_call [] [] [_, _] rfl rfl Try.call23 rfl (c_Range _ _ _ _ _ (hA.le S1.le)) ?_
          rintro _ w18 ⟨lo5618, hi5618, e5618, rfl, hl5618, hR5618⟩
          have S19 := S1.step hl5618
          have hR0 : RaR N arcs (i : Nat) lo5618 hi5618 e5618 := hR5618
          have he0 := hR0.ok hV hx hin
          subst he0
          have hsr := stuck_range hV hx hR0 rfl
          refine l_x rfl (x_mv rfl) ?_
          refine l_x rfl (x_extract rfl rfl) ?_
          refine l_x rfl (x_extract rfl rfl) ?_
          refine l_x rfl (x_extract rfl rfl) ?_
          refine l_x rfl (x_as rfl) ?_
          refine l_x rfl (x_as rfl) ?_
          refine l_x rfl (x_as rfl) ?_
          refine l_nil ?_
          refine r_seq ?_
          refine r_region ?_
          refine l_x rfl (x_mv rfl) ?_
          refine l_x rfl (x_mv rfl) ?_
          refine l_x rfl (x_len (vec_rd (S19.at 1 rfl)) rfl Try.runUnderlying25) ?_
          refine l_x rfl (x_lss rfl rfl) ?_
          refine l_x rfl (x_mv rfl) ?_
          refine l_splitd (d := 64) rfl (fun hg64 => ?_) (fun hg64 => ?_)
          · skip
            obtain ⟨q, hq⟩ : ∃ q, (stk arcs x arcs.length)[(stk arcs x i).length]? = some q := ⟨_, List.getElem?_eq_getElem (by omega)⟩
            refine l_x rfl (x_mv rfl) ?_
            refine l_x rfl (x_mv rfl) ?_
            refine l_index EI rfl (vec_rd (S19.at 1 rfl)) rfl rfl Try.runUnderlying25 Try.sizeOf3 (by omega) hq ?_
            intro b20 o21 hat22 row23
            refine l_x rfl (x_load rfl (ld_cell Try.isAgg3 (row23 0 _ rfl))) ?_
            refine l_x rfl (x_mv rfl) ?_
            refine l_x rfl (x_eql rfl rfl) ?_
            refine l_x rfl (x_pick_t rfl rfl) ?_
            refine l_x rfl (x_as rfl) ?_
            refine l_nil ?_
            refine r_seq ?_
            refine r_seq ?_
            refine r_region ?_
            refine l_x rfl (x_mv rfl) ?_
            refine l_x rfl (x_neq rfl rfl) ?_
            refine l_x rfl (x_mv rfl) ?_
            refine l_splitd (d := 74) rfl (fun hg74 => ?_) (fun hg74 => ?_)
            · exact absurd rfl hg74
            · skip
              refine l_x rfl (x_mv rfl) ?_
              refine l_x rfl (x_mv rfl) ?_
              refine l_x rfl (x_mv rfl) ?_
              refine l_x rfl (x_eql rfl rfl) ?_
              refine l_x rfl (x_bne Try.runUnderlying4 rfl rfl) ?_
              refine l_x rfl (x_pick_f rfl rfl) ?_
              refine l_nil ?_
              refine r_if rfl (fun hc80 => ?_) (fun hc80 => ?_)
              · rw [is_same hin hsr hq] at hc80; cases hc80
              · skip
                refine r_skip ?_
                refine r_seq ?_
                refine r_region ?_
                refine l_x rfl (x_mv rfl) ?_
                refine l_nil ?_
                refine r_ifd rfl (fun hc81 => ?_) (fun hc81 => ?_)
                · skip
                  refine r_region ?_
                  refine l_x rfl (x_mv rfl) ?_
                  refine l_x rfl (x_add rfl rfl (by omega)) ?_
                  refine l_x rfl (x_as rfl) ?_
                  refine l_nil ?_
                  refine r_inBlock ?_
                  refine r_region ?_
                  refine l_x rfl (x_mv rfl) ?_
                  refine l_x rfl (x_add rfl rfl (by omega)) ?_
                  refine l_x rfl (x_as rfl) ?_
                  refine l_nil ?_
                  exact IH (i + 1) _ _ (by omega) ⟨rfl, rfl, (congrArg (Value.int .i64) (by rw [stk_yes (is_yes hin hq hc81), List.length_append, List.length_singleton]; rfl)), rfl, trivial⟩ ⟨by omega, (S19.take 2)⟩
                · skip
                  refine r_skip ?_
                  refine r_inBlock ?_
                  refine r_region ?_
                  refine l_x rfl (x_mv rfl) ?_
                  refine l_x rfl (x_add rfl rfl (by omega)) ?_
                  refine l_x rfl (x_as rfl) ?_
                  refine l_nil ?_
                  exact IH (i + 1) _ _ (by omega) ⟨rfl, rfl, (congrArg (Value.int .i64) (by rw [stk_no (is_no hin hq hc81)])), rfl, trivial⟩ ⟨by omega, (S19.take 2)⟩
          · skip
            refine l_pass rfl ?_
            refine l_pass rfl ?_
            refine l_pass rfl ?_
            refine l_pass rfl ?_
            refine l_pass rfl ?_
            refine l_pass rfl ?_
            refine l_x rfl (x_pick_f rfl rfl) ?_
            refine l_x rfl (x_as rfl) ?_
            refine l_nil ?_
            refine r_seq ?_
            refine r_seq ?_
            refine r_region ?_
            refine l_x rfl (x_mv rfl) ?_
            refine l_x rfl (x_neq rfl rfl) ?_
            refine l_x rfl (x_mv rfl) ?_
            refine l_splitd (d := 74) rfl (fun hg74 => ?_) (fun hg74 => ?_)
            · exact absurd rfl hg74
            · skip
              refine l_x rfl (x_mv rfl) ?_
              refine l_x rfl (x_mv rfl) ?_
              refine l_x rfl (x_mv rfl) ?_
              refine l_x rfl (x_eql rfl rfl) ?_
              refine l_x rfl (x_bneF Try.runUnderlying4 rfl rfl) ?_
              refine l_x rfl (x_pick_f rfl rfl) ?_
              refine l_nil ?_
              refine r_ifd rfl (fun hc80 => ?_) (fun hc80 => ?_)
              · exact absurd (hsr.2 hc80) (is_out hin hg64)
              · skip
                refine r_skip ?_
                refine r_seq ?_
                refine r_region ?_
                refine l_x rfl (x_mv rfl) ?_
                refine l_nil ?_
                refine r_false rfl ?_
                refine r_skip ?_
                refine r_inBlock ?_
                refine r_region ?_
                refine l_x rfl (x_mv rfl) ?_
                refine l_x rfl (x_add rfl rfl (by omega)) ?_
                refine l_x rfl (x_as rfl) ?_
                refine l_nil ?_
                exact IH (i + 1) _ _ (by omega) ⟨rfl, rfl, (congrArg (Value.int .i64) (by rw [stk_no (is_out hin hg64)])), rfl, trivial⟩ ⟨by omega, (S19.take 2)⟩
        · skip
          have hie : i = arcs.length := by omega
          subst hie
          refine r_exit rfl ?_
          refine r_seq ?_
          refine r_region ?_
          refine l_call [] [] [] rfl rfl Try.call19 rfl (c_flowing _) ?_
          rintro _ w24 ⟨rfl, hl26⟩
          have S25 := S1.step hl26
          refine l_x rfl (x_mv rfl) ?_
          refine l_x rfl (x_mv rfl) ?_
          refine l_x rfl (x_mv rfl) ?_
          refine l_x rfl (x_len (vec_rd (S25.at 1 rfl)) rfl Try.runUnderlying25) ?_
          refine l_x rfl (x_eql rfl rfl) ?_
          refine l_x rfl (x_pick_t rfl rfl) ?_
          refine l_x rfl (x_as rfl) ?_
          refine l_nil ?_
          refine r_ret (rs := [.tmp 2]) [_] Try.func17 rfl ⟨rfl, trivial⟩ ?_
          exact ⟨congrArg Value.bool (decide_eq_true (by rfl)), S25.le⟩

end Go.Proofs

/-
  The statement of FlowFixed: for every input the law returns true, and its arguments read as they did. No condition.
-/
namespace Go.Proofs
open Go Go.Vk Go.Vk.Flow

open Go.ChangeShapes Go.WideShapes Go.RowKit Go.Joins
namespace Ytddapgjjndbejaa
set_option maxRecDepth 100000 in
theorem liftedFixed (os : Os) (started : os.Started) (H : Type) (enc : TypeId × Value → H) :
    ReturnsInHanded {} Try.checked os 17 .any (Rows.flowFixedSpec.pre6 enc Try.prog Try.f17 Rows.flowFixedRow.domain false) (Rows.flowFixedSpec.post enc Try.prog Try.f17 false true false false) := by
  refine returnsInHanded_of_change (C := Try.checked) ownT started (by kernel_rfl) Try.func17
    (ChangeSpec.witness6 (enc := enc) (C := Try.checked) false ⟨#[], #[.agg #[.int .i64 0, .slice none 0 0]], []⟩ 8 (by kernel_rfl) (by kernel_rfl) (by kernel_rfl) (by kernel_rfl)) ?_
  intro W base args ds gs before hval0 hW hcnd _
  have hval : ∀ (j : Nat) t v, Try.f17.params[j]? = some t → args[j]? = some v → Value.okWide Try.prog W .any base t v := hval0
  have hW' := hW
  obtain ⟨p, q, hA0, hV, rfl, hfz, hnd⟩ := hW
  have hA : DataW.TrodAll enc Try.prog W 0 (fun _ => true) true Try.f17.params.toList args.toList ds p := hA0
  rw [Try.params17] at hA hval
  obtain ⟨v0, vs0, d0, ds0, p0, q0, hargs, rfl, rfl, h0, r0⟩ := trodAll_cons hA
  obtain ⟨rfl, rfl, rfl⟩ := trodAll_nil r0
  obtain rfl : args = #[v0] := by cases args; simp_all
  obtain ⟨rfl, rfl⟩ := trodVars_none hV
  obtain ⟨N0, va0, arcs0, rfl, hQ0, hm0⟩ := openNet (hval 0 24 v0 rfl rfl) h0
  clear hA0 hval0
  exact (lawFixed N0 va0 arcs0 W hQ0).mono fun v W' ⟨hv, hle⟩ => by
    subst hv
    exact post_law hW' laidT (by rw [Try.params17]; exact fun t ht => by revert t; decide +kernel) (by kernel_rfl) Try.underlying4 rfl rfl rfl rfl hle
/-- FlowFixed: whatever the input, the law returns true, and its arguments read as they did. -/
theorem flowFixed : Rows.FlowFixedSaid :=
  OpenClaim.holds_of_wide 17 Try.f17 rfl rfl rfl rfl rfl rfl rfl ⟨rfl, rfl, rfl, rfl, rfl⟩ rfl rfl rfl rfl rfl (by kernel_rfl) Try.func17 (by kernel_rfl)
    (of_decide_eq_true (by kernel_rfl)) (by unfold Func.isWrapper; rw [if_neg (of_decide_eq_false (by kernel_rfl))]; exact ⟨rfl, rfl⟩)
    (fun os started H enc _ => liftedFixed os started H enc)
#print axioms flowFixed
end Ytddapgjjndbejaa

end Go.Proofs
