/-
  The statement of FlowParts: for every input the law returns true, and its arguments read as they did. No condition.
-/
import Derived.Test.YtddapgjjndbejaaKhParts
import Derived.Test.YtddapgjjndbejaaKiParts
/-
  Contracts of functions of the program: each by symbolic execution of its text.
-/
namespace Go.Proofs
open Go Go.Vk Go.Vk.Flow

section
variable {N : Int} {arcs : List Arc} {x : List Int} {zs : List Crc} {e f : Int} {k : Bool}
theorem partsBad (h : CirR N arcs x zs e) (h2 : KeptR N arcs x k f) (hb : f ≠ 0 ∨ k = false) : zs.length = 0 ∧ (f ≠ 0 → e = f) ∧ (f = 0 → e = 60) := by
  obtain ⟨hf, hk⟩ := h2
  cases h with
  | bad g => exact ⟨rfl, fun _ => hf.symm, fun h0 => absurd (hf.symm.trans h0) g⟩
  | no g _ => exact ⟨rfl, fun h => absurd (hf.trans g) h, fun _ => rfl⟩
  | yes g g2 _ _ _ =>
    obtain ⟨hV, hx⟩ := askd_zero.1 g
    have hk' := hk.2 ⟨hV, (kept_iff hV (row_amts.1 hx).len).1 g2⟩
    rcases hb with hb | hb
    · exact absurd (hf.trans g) hb
    · rw [hk'] at hb; cases hb
theorem partsOk (h : CirR N arcs x zs e) (h2 : KeptR N arcs x true f) : e = 0 ∧ zs.length ≤ arcs.length ∧ arcs.length ≤ 4000 ∧ ∀ c ∈ zs, c.1.length ≤ 4611686018427387903 := by
  obtain ⟨hf, hk⟩ := h2
  obtain ⟨hV, hc⟩ := hk.1 rfl
  cases h with
  | bad g => exact absurd (askd_zero.2 ⟨hV, row_amts.2 (hc.amts hV)⟩) g
  | no _ g => exact absurd ((kept_iff hV hc.bds.1).2 hc) g
  | yes _ _ g3 g4 _ => exact ⟨rfl, g4, by have := hV.len; omega, fun c hcm => by have := (g3 c hcm).src_lt hV; have := hV.max; omega⟩
end

set_option maxHeartbeats 4000000 in
/-- couchant/couchantlaw06.FlowParts. -/
theorem lawParts (N : Int) (va : Value) (arcs : List Arc) (vx : Value) (x : List Int) (w : World) (hA : Rd EA w va arcs) (Hx : Rd EI w vx x) :
    Cl Try.prog 16 #[.agg #[.int .i64 N, va], vx] w fun v w' => v = .bool true ∧ Le w w' := by
  refine fn_of_run (args := [_, _]) 87 Try.func16 rfl rfl rfl fun cs => ?_
  have S := Own.start (X := nob) w
  refine r_seq ?_
  refine r_region ?_
  refine l_box S rfl rfl ?_
  intro b4 w1 S2 hl3
  refine l_x rfl (x_as rfl) ?_
  refine l_nil ?_
  refine r_seq ?_
  refine r_seq ?_
  refine r_region ?_
  refine l_x rfl (x_load rfl (ld_blks (S2.blk 0 rfl) Try.isAgg24 Try.sizeOf24 rfl rfl)) ?_
  refine l_call [] [] [_] rfl rfl Try.call18 rfl (c_small _ _ _ _ (hA.le S2.le)) ?_
  rintro _ w5 ⟨rfl, hl7⟩
  have S6 := S2.step hl7
  refine l_x rfl (x_not rfl) ?_
  refine l_x rfl (x_mv rfl) ?_
  refine l_split (d := 14) rfl (fun hg14 => ?_) (fun hg14 => ?_)
  · skip
    refine l_pass rfl ?_
    refine l_pass rfl ?_
    refine l_pass rfl ?_
    refine l_x rfl (x_pick_t rfl rfl) ?_
    refine l_nil ?_
    refine r_true rfl ?_
    refine r_seq ?_
    refine r_region ?_
    refine l_call [] [] [] rfl rfl Try.call19 rfl (c_flowing _) ?_
    rintro _ w8 ⟨rfl, hl10⟩
    have S9 := S6.step hl10
    refine l_x rfl (x_as rfl) ?_
    refine l_nil ?_
    refine r_ret (rs := [.tmp 4]) [_] Try.func16 rfl ⟨rfl, trivial⟩ ?_
    exact ⟨rfl, S9.le⟩
  · skip
    refine l_x rfl (x_mv rfl) ?_
    refine l_x rfl (x_len (Hx.le S6.le) rfl Try.runUnderlying25) ?_
    refine l_x rfl (x_gtr rfl rfl) ?_
    refine l_x rfl (x_pick_f rfl rfl) ?_
    refine l_nil ?_
    refine r_ifd rfl (fun hc18 => ?_) (fun hc18 => ?_)
    · skip
      refine r_seq ?_
      refine r_region ?_
      refine l_call [] [] [] rfl rfl Try.call19 rfl (c_flowing _) ?_
      rintro _ w11 ⟨rfl, hl13⟩
      have S12 := S6.step hl13
      refine l_x rfl (x_as rfl) ?_
      refine l_nil ?_
      refine r_ret (rs := [.tmp 4]) [_] Try.func16 rfl ⟨rfl, trivial⟩ ?_
      exact ⟨rfl, S12.le⟩
    · skip
      refine r_skip ?_
      refine r_seq ?_
      refine r_region ?_
      refine l_x rfl (x_load rfl (ld_blks (S6.blk 0 rfl) Try.isAgg24 Try.sizeOf24 rfl rfl)) ?_
      refine l_x rfl (x_mv rfl) ?_
      refine l_call [] [] [_, _] rfl rfl Try.call59 rfl (c_Circles _ _ _ _ _ (by first | omega | (rw [unit_length]; omega) | (rw [List.length_map]; omega) | decide) _ (hA.le S6.le) (Hx.le S6.le)) ?_
      rintro _ w14 ⟨s2314, ds2314, zs2314, e2314, rfl, hO2314, hF2314, hR2314⟩
      have S15 := S6.join hO2314
      have hCi := hR2314
      have hFi := hF2314
      have hFl := hF2314.len
      refine l_x rfl (x_mv rfl) ?_
      refine l_x rfl (x_extract rfl rfl) ?_
      refine l_x rfl (x_extract rfl rfl) ?_
      refine l_x rfl (x_as rfl) ?_
      refine l_x rfl (x_as rfl) ?_
      refine l_nil ?_
      refine r_seq ?_
      refine r_region ?_
      refine l_x rfl (x_load rfl (ld_blks (S15.blk 0 rfl) Try.isAgg24 Try.sizeOf24 rfl rfl)) ?_
      refine l_x rfl (x_mv rfl) ?_
      refine l_call [] [] [_, _] rfl rfl Try.call21 rfl (c_KeptR2 _ _ _ _ _ (by first | omega | (rw [unit_length]; omega) | (rw [List.length_map]; omega) | decide) _ (hA.le S15.le) (Hx.le S15.le)) ?_
      rintro _ w16 (⟨e2916, rfl, hl2916, hR2916⟩ | ⟨e2916, rfl, hl2916, hR2916⟩)
      · skip
        have S17 := S15.step hl2916
        have hRK := hR2916
        refine l_x rfl (x_mv rfl) ?_
        refine l_x rfl (x_extract rfl rfl) ?_
        refine l_x rfl (x_extract rfl rfl) ?_
        refine l_x rfl (x_as rfl) ?_
        refine l_x rfl (x_as rfl) ?_
        refine l_nil ?_
        refine r_seq ?_
        refine r_seq ?_
        refine r_region ?_
        refine l_x rfl (x_mv rfl) ?_
        refine l_x rfl (x_neq rfl rfl) ?_
        refine l_x rfl (x_mv rfl) ?_
        refine l_splitd (d := 34) rfl (fun hg34 => ?_) (fun hg34 => ?_)
        · skip
          refine l_pass rfl ?_
          refine l_pass rfl ?_
          refine l_x rfl (x_pick_t rfl rfl) ?_
          refine l_nil ?_
          refine r_true rfl ?_
          refine r_seq ?_
          have hB := partsBad hCi hRK (.inl hg34)
          obtain ⟨hB1, hB2, hB3⟩ := hB
          refine r_region ?_
          refine l_call [] [] [] rfl rfl Try.call19 rfl (c_flowing _) ?_
          rintro _ w18 ⟨rfl, hl20⟩
          have S19 := S17.step hl20
          refine l_x rfl (x_mv rfl) ?_
          refine l_x rfl (x_mv rfl) ?_
          refine l_x rfl (x_len (vec_rd (S19.at 1 rfl)) rfl Try.runUnderlying73) ?_
          refine l_x rfl (x_eql rfl rfl) ?_
          refine l_x rfl (x_pick_t rfl rfl) ?_
          refine l_x rfl (x_mv rfl) ?_
          refine l_splitd (d := 44) rfl (fun hg44 => ?_) (fun hg44 => ?_)
          · skip
            refine l_x rfl (x_mv rfl) ?_
            refine l_x rfl (x_neq rfl rfl) ?_
            refine l_x rfl (x_mv rfl) ?_
            refine l_splitd (d := 47) rfl (fun hg47 => ?_) (fun hg47 => ?_)
            · skip
              refine l_x rfl (x_mv rfl) ?_
              refine l_x rfl (x_mv rfl) ?_
              refine l_x rfl (x_eql rfl rfl) ?_
              refine l_x rfl (x_pick_t rfl rfl) ?_
              refine l_x rfl (x_mv rfl) ?_
              refine l_splitd (d := 52) rfl (fun hg52 => ?_) (fun hg52 => ?_)
              · skip
                refine l_pass rfl ?_
                refine l_pass rfl ?_
                refine l_pass rfl ?_
                refine l_pass rfl ?_
                refine l_pass rfl ?_
                refine l_pass rfl ?_
                refine l_x rfl (x_pick_t rfl rfl) ?_
                refine l_x rfl (x_pick_t rfl rfl) ?_
                refine l_x rfl (x_as rfl) ?_
                refine l_nil ?_
                refine r_ret (rs := [.tmp 4]) [_] Try.func16 rfl ⟨rfl, trivial⟩ ?_
                exact ⟨rfl, S19.le⟩
              · exact absurd (hB2 hg47) hg52
            · skip
              refine l_pass rfl ?_
              refine l_pass rfl ?_
              refine l_pass rfl ?_
              refine l_x rfl (x_pick_f rfl rfl) ?_
              refine l_x rfl (x_mv rfl) ?_
              refine l_x rfl (x_mv rfl) ?_
              refine l_x rfl (x_eql rfl rfl) ?_
              refine l_x rfl (x_mv rfl) ?_
              refine l_splitd (d := 55) rfl (fun hg55 => ?_) (fun hg55 => ?_)
              · skip
                refine l_x rfl (x_mv rfl) ?_
                refine l_x rfl (x_eql rfl rfl) ?_
                refine l_x rfl (x_pick_t rfl rfl) ?_
                refine l_x rfl (x_pick_f rfl rfl) ?_
                refine l_x rfl (x_pick_t rfl rfl) ?_
                refine l_x rfl (x_as rfl) ?_
                refine l_nil ?_
                refine r_ret (rs := [.tmp 4]) [_] Try.func16 rfl ⟨rfl, trivial⟩ ?_
                exact ⟨congrArg Value.bool (decide_eq_true (by exact hB3 hg55)), S19.le⟩
              · exact absurd (Decidable.not_not.1 hg47) hg55
          · exact absurd (by omega) hg44
        · skip
          refine l_x rfl (x_mv rfl) ?_
          refine l_x rfl (x_not rfl) ?_
          refine l_x rfl (x_pick_f rfl rfl) ?_
          refine l_nil ?_
          refine r_false rfl ?_
          refine r_skip ?_
          refine r_seq ?_
          refine r_seq ?_
          obtain ⟨he0, hzl, hal, hzm⟩ := partsOk hCi hRK
          refine r_region ?_
          refine l_x rfl (x_mv rfl) ?_
          refine l_x rfl (x_neq rfl rfl) ?_
          refine l_x rfl (x_mv rfl) ?_
          refine l_splitd (d := 63) rfl (fun hg63 => ?_) (fun hg63 => ?_)
          · exact absurd he0 hg63
          · skip
            refine l_x rfl (x_mv rfl) ?_
            refine l_x rfl (x_len (vec_rd (S17.at 1 rfl)) rfl Try.runUnderlying73) ?_
            refine l_x rfl (x_fieldAddr rfl Try.runUnderlying24 rfl Try.sizeOf22 (by decide)) ?_
            refine l_x rfl (x_load rfl (ld_blk (S17.blk 0 rfl) Try.isAgg22 rfl)) ?_
            refine l_x rfl (x_len (hA.le S17.le) rfl Try.runUnderlying22) ?_
            refine l_x rfl (x_gtr rfl rfl) ?_
            refine l_x rfl (x_pick_f rfl rfl) ?_
            refine l_nil ?_
            refine r_ifd rfl (fun hc70 => ?_) (fun hc70 => ?_)
            · exact absurd hc70 (by omega)
            · skip
              refine r_skip ?_
              refine r_seq ?_
              refine r_region ?_
              refine l_x rfl (x_load rfl (ld_blks (S17.blk 0 rfl) Try.isAgg24 Try.sizeOf24 rfl rfl)) ?_
              refine l_x rfl (x_mv rfl) ?_
              refine l_call [] [] [_, _] rfl rfl Try.call58 rfl (c_rFromCircles _ _ _ _ _ _ hzm (by omega) _ (hA.le S17.le) (csr_of (S17.at 1 rfl) (S17.at 2 rfl) hFi)) ?_
              rintro _ w21 ⟨s7421, l7421, e7421, rfl, hN7421, hl7421, hR7421⟩
              have S22 := S17.add hl7421 hN7421
              obtain ⟨hf0, hxl⟩ := parts hCi he0 hR7421
              refine l_x rfl (x_mv rfl) ?_
              refine l_x rfl (x_extract rfl rfl) ?_
              refine l_x rfl (x_extract rfl rfl) ?_
              refine l_x rfl (x_as rfl) ?_
              refine l_x rfl (x_as rfl) ?_
              refine l_nil ?_
              refine r_seq ?_
              refine r_region ?_
              refine l_call [] [] [] rfl rfl Try.call19 rfl (c_flowing _) ?_
              rintro _ w23 ⟨rfl, hl25⟩
              have S24 := S22.step hl25
              refine l_x rfl (x_mv rfl) ?_
              refine l_x rfl (x_mv rfl) ?_
              refine l_x rfl (x_eql rfl rfl) ?_
              refine l_x rfl (x_pick_t rfl rfl) ?_
              refine l_x rfl (x_mv rfl) ?_
              refine l_splitd (d := 82) rfl (fun hg82 => ?_) (fun hg82 => ?_)
              · skip
                refine l_x rfl (x_mv rfl) ?_
                refine l_x rfl (x_mv rfl) ?_
                refine l_call [] [] [_, _] rfl rfl Try.call29 rfl (c_SameInts _ _ _ _ (by first | omega | (simp; done) | (simp; omega)) _ (Hx.le S24.le) (vec_rd (S24.at 3 rfl))) ?_
                rintro _ w26 ⟨rfl, hl28⟩
                have S27 := S24.step hl28
                refine l_x rfl (x_pick_t rfl rfl) ?_
                refine l_x rfl (x_as rfl) ?_
                refine l_nil ?_
                refine r_ret (rs := [.tmp 4]) [_] Try.func16 rfl ⟨rfl, trivial⟩ ?_
                exact ⟨congrArg Value.bool (decide_eq_true (by exact hxl)), S27.le⟩
              · exact absurd hf0 hg82
      · skip
        have S29 := S15.step hl2916
        have hRK := hR2916
        refine l_x rfl (x_mv rfl) ?_
        refine l_x rfl (x_extract rfl rfl) ?_
        refine l_x rfl (x_extract rfl rfl) ?_
        refine l_x rfl (x_as rfl) ?_
        refine l_x rfl (x_as rfl) ?_
        refine l_nil ?_
        refine r_seq ?_
        refine r_seq ?_
        refine r_region ?_
        refine l_x rfl (x_mv rfl) ?_
        refine l_x rfl (x_neq rfl rfl) ?_
        refine l_x rfl (x_mv rfl) ?_
        refine l_splitd (d := 34) rfl (fun hg34 => ?_) (fun hg34 => ?_)
        · skip
          refine l_pass rfl ?_
          refine l_pass rfl ?_
          refine l_x rfl (x_pick_t rfl rfl) ?_
          refine l_nil ?_
          refine r_true rfl ?_
          refine r_seq ?_
          have hB := partsBad hCi hRK (.inl hg34)
          obtain ⟨hB1, hB2, hB3⟩ := hB
          refine r_region ?_
          refine l_call [] [] [] rfl rfl Try.call19 rfl (c_flowing _) ?_
          rintro _ w30 ⟨rfl, hl32⟩
          have S31 := S29.step hl32
          refine l_x rfl (x_mv rfl) ?_
          refine l_x rfl (x_mv rfl) ?_
          refine l_x rfl (x_len (vec_rd (S31.at 1 rfl)) rfl Try.runUnderlying73) ?_
          refine l_x rfl (x_eql rfl rfl) ?_
          refine l_x rfl (x_pick_t rfl rfl) ?_
          refine l_x rfl (x_mv rfl) ?_
          refine l_splitd (d := 44) rfl (fun hg44 => ?_) (fun hg44 => ?_)
          · skip
            refine l_x rfl (x_mv rfl) ?_
            refine l_x rfl (x_neq rfl rfl) ?_
            refine l_x rfl (x_mv rfl) ?_
            refine l_splitd (d := 47) rfl (fun hg47 => ?_) (fun hg47 => ?_)
            · skip
              refine l_x rfl (x_mv rfl) ?_
              refine l_x rfl (x_mv rfl) ?_
              refine l_x rfl (x_eql rfl rfl) ?_
              refine l_x rfl (x_pick_t rfl rfl) ?_
              refine l_x rfl (x_mv rfl) ?_
              refine l_splitd (d := 52) rfl (fun hg52 => ?_) (fun hg52 => ?_)
              · skip
                refine l_pass rfl ?_
                refine l_pass rfl ?_
                refine l_pass rfl ?_
                refine l_pass rfl ?_
                refine l_pass rfl ?_
                refine l_pass rfl ?_
                refine l_x rfl (x_pick_t rfl rfl) ?_
                refine l_x rfl (x_pick_t rfl rfl) ?_
                refine l_x rfl (x_as rfl) ?_
                refine l_nil ?_
                refine r_ret (rs := [.tmp 4]) [_] Try.func16 rfl ⟨rfl, trivial⟩ ?_
                exact ⟨rfl, S31.le⟩
              · exact absurd (hB2 hg47) hg52
            · skip
              refine l_pass rfl ?_
              refine l_pass rfl ?_
              refine l_pass rfl ?_
              refine l_x rfl (x_pick_f rfl rfl) ?_
              refine l_x rfl (x_mv rfl) ?_
              refine l_x rfl (x_mv rfl) ?_
              refine l_x rfl (x_eql rfl rfl) ?_
              refine l_x rfl (x_mv rfl) ?_
              refine l_splitd (d := 55) rfl (fun hg55 => ?_) (fun hg55 => ?_)
              · skip
                refine l_x rfl (x_mv rfl) ?_
                refine l_x rfl (x_eql rfl rfl) ?_
                refine l_x rfl (x_pick_t rfl rfl) ?_
                refine l_x rfl (x_pick_f rfl rfl) ?_
                refine l_x rfl (x_pick_t rfl rfl) ?_
                refine l_x rfl (x_as rfl) ?_
                refine l_nil ?_
                refine r_ret (rs := [.tmp 4]) [_] Try.func16 rfl ⟨rfl, trivial⟩ ?_
                exact ⟨congrArg Value.bool (decide_eq_true (by exact hB3 hg55)), S31.le⟩
              · exact absurd (Decidable.not_not.1 hg47) hg55
          · exact absurd (by omega) hg44
        · skip
          refine l_x rfl (x_mv rfl) ?_
          refine l_x rfl (x_not rfl) ?_
          refine l_x rfl (x_pick_f rfl rfl) ?_
          refine l_nil ?_
          refine r_true rfl ?_
          refine r_seq ?_
          have hB := partsBad hCi hRK (.inr rfl)
          obtain ⟨hB1, hB2, hB3⟩ := hB
          refine r_region ?_
          refine l_call [] [] [] rfl rfl Try.call19 rfl (c_flowing _) ?_
          rintro _ w33 ⟨rfl, hl35⟩
          have S34 := S29.step hl35
          refine l_x rfl (x_mv rfl) ?_
          refine l_x rfl (x_mv rfl) ?_
          refine l_x rfl (x_len (vec_rd (S34.at 1 rfl)) rfl Try.runUnderlying73) ?_
          refine l_x rfl (x_eql rfl rfl) ?_
          refine l_x rfl (x_pick_t rfl rfl) ?_
          refine l_x rfl (x_mv rfl) ?_
          refine l_splitd (d := 44) rfl (fun hg44 => ?_) (fun hg44 => ?_)
          · skip
            refine l_x rfl (x_mv rfl) ?_
            refine l_x rfl (x_neq rfl rfl) ?_
            refine l_x rfl (x_mv rfl) ?_
            refine l_splitd (d := 47) rfl (fun hg47 => ?_) (fun hg47 => ?_)
            · skip
              refine l_x rfl (x_mv rfl) ?_
              refine l_x rfl (x_mv rfl) ?_
              refine l_x rfl (x_eql rfl rfl) ?_
              refine l_x rfl (x_pick_t rfl rfl) ?_
              refine l_x rfl (x_mv rfl) ?_
              refine l_splitd (d := 52) rfl (fun hg52 => ?_) (fun hg52 => ?_)
              · skip
                refine l_pass rfl ?_
                refine l_pass rfl ?_
                refine l_pass rfl ?_
                refine l_pass rfl ?_
                refine l_pass rfl ?_
                refine l_pass rfl ?_
                refine l_x rfl (x_pick_t rfl rfl) ?_
                refine l_x rfl (x_pick_t rfl rfl) ?_
                refine l_x rfl (x_as rfl) ?_
                refine l_nil ?_
                refine r_ret (rs := [.tmp 4]) [_] Try.func16 rfl ⟨rfl, trivial⟩ ?_
                exact ⟨rfl, S34.le⟩
              · exact absurd (hB2 hg47) hg52
            · skip
              refine l_pass rfl ?_
              refine l_pass rfl ?_
              refine l_pass rfl ?_
              refine l_x rfl (x_pick_f rfl rfl) ?_
              refine l_x rfl (x_mv rfl) ?_
              refine l_x rfl (x_mv rfl) ?_
              refine l_x rfl (x_eql rfl rfl) ?_
              refine l_x rfl (x_mv rfl) ?_
              refine l_splitd (d := 55) rfl (fun hg55 => ?_) (fun hg55 => ?_)
              · skip
                refine l_x rfl (x_mv rfl) ?_
                refine l_x rfl (x_eql rfl rfl) ?_
                refine l_x rfl (x_pick_t rfl rfl) ?_
                refine l_x rfl (x_pick_f rfl rfl) ?_
                refine l_x rfl (x_pick_t rfl rfl) ?_
                refine l_x rfl (x_as rfl) ?_
                refine l_nil ?_
                refine r_ret (rs := [.tmp 4]) [_] Try.func16 rfl ⟨rfl, trivial⟩ ?_
                exact ⟨congrArg Value.bool (decide_eq_true (by exact hB3 hg55)), S34.le⟩
              · exact absurd (Decidable.not_not.1 hg47) hg55
          · exact absurd (by omega) hg44

end Go.Proofs

/-
  The statement of FlowParts: for every input the law returns true, and its arguments read as they did. No condition.
-/
namespace Go.Proofs
open Go Go.Vk Go.Vk.Flow

open Go.ChangeShapes Go.WideShapes Go.RowKit Go.Joins
namespace Ytddapgjjndbejaa
set_option maxRecDepth 100000 in
theorem liftedParts (os : Os) (started : os.Started) (H : Type) (enc : TypeId × Value → H) :
    ReturnsInHanded {} Try.checked os 16 .any (Rows.flowPartsSpec.pre6 enc Try.prog Try.f16 Rows.flowPartsRow.domain false) (Rows.flowPartsSpec.post enc Try.prog Try.f16 false true false false) := by
  refine returnsInHanded_of_change (C := Try.checked) ownT started (by kernel_rfl) Try.func16
    (ChangeSpec.witness6 (enc := enc) (C := Try.checked) false ⟨#[], #[.agg #[.int .i64 0, .slice none 0 0], .slice none 0 0], []⟩ 8 (by kernel_rfl) (by kernel_rfl) (by kernel_rfl) (by kernel_rfl)) ?_
  intro W base args ds gs before hval0 hW hcnd _
  have hval : ∀ (j : Nat) t v, Try.f16.params[j]? = some t → args[j]? = some v → Value.okWide Try.prog W .any base t v := hval0
  have hW' := hW
  obtain ⟨p, q, hA0, hV, rfl, hfz, hnd⟩ := hW
  have hA : DataW.TrodAll enc Try.prog W 0 (fun _ => true) true Try.f16.params.toList args.toList ds p := hA0
  rw [Try.params16] at hA hval
  obtain ⟨v0, vs0, d0, ds0, p0, q0, hargs, rfl, rfl, h0, r0⟩ := trodAll_cons hA
  obtain ⟨v1, vs1, d1, ds1, p1, q1, rfl, rfl, rfl, h1, r1⟩ := trodAll_cons r0
  obtain ⟨rfl, rfl, rfl⟩ := trodAll_nil r1
  obtain rfl : args = #[v0, v1] := by cases args; simp_all
  obtain ⟨rfl, rfl⟩ := trodVars_none hV
  obtain ⟨N0, va0, arcs0, rfl, hQ0, hm0⟩ := openNet (hval 0 24 v0 rfl rfl) h0
  obtain ⟨l1, hQ1, hm1⟩ := openInts (hval 1 25 v1 rfl rfl) h1
  clear hA0 hval0
  exact (lawParts N0 va0 arcs0 _ l1 W hQ0 hQ1).mono fun v W' ⟨hv, hle⟩ => by
    subst hv
    exact post_law hW' laidT (by rw [Try.params16]; exact fun t ht => by revert t; decide +kernel) (by kernel_rfl) Try.underlying4 rfl rfl rfl rfl hle
/-- FlowParts: whatever the input, the law returns true, and its arguments read as they did. -/
theorem flowParts : Rows.FlowPartsSaid :=
  OpenClaim.holds_of_wide 16 Try.f16 rfl rfl rfl rfl rfl rfl rfl ⟨rfl, rfl, rfl, rfl, rfl⟩ rfl rfl rfl rfl rfl (by kernel_rfl) Try.func16 (by kernel_rfl)
    (of_decide_eq_true (by kernel_rfl)) (by unfold Func.isWrapper; rw [if_neg (of_decide_eq_false (by kernel_rfl))]; exact ⟨rfl, rfl⟩)
    (fun os started H enc _ => liftedParts os started H enc)
#print axioms flowParts
end Ytddapgjjndbejaa

end Go.Proofs
