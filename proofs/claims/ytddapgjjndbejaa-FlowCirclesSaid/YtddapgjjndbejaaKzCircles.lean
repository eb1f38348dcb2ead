/-
  The statement of FlowCircles: for every input the law returns true, and its arguments read as they did. No condition.
-/
import Derived.Test.YtddapgjjndbejaaKiCircles
import Derived.Test.YtddapgjjndbejaaKhCircles
/-
  Contracts of functions of the program: each by symbolic execution of its text.
-/
namespace Go.Proofs
open Go Go.Vk Go.Vk.Flow

theorem len_step {zs : List Crc} {i : Nat} {c : Crc} (h : ∀ c ∈ zs.take i, c.1.length ≤ 100) (hc : zs[i]? = some c) (hk : ¬ (100 : Int) < (c.1.length : Int)) : ∀ c ∈ zs.take (i + 1), c.1.length ≤ 100 := by
  intro d hd
  rw [List.take_add_one, hc] at hd
  rcases List.mem_append.1 hd with hd | hd
  · exact h d hd
  · simp at hd; subst hd; omega

set_option maxHeartbeats 4000000 in
/-- couchant/couchantlaw06.FlowCircles. -/
theorem lawCircles (N : Int) (va : Value) (arcs : List Arc) (vl : Value) (ds : List (Hd × Int)) (zs : List Crc) (hmd : ds.length ≤ 9223372036854775807) (w : World) (hA : Rd EA w va arcs) (hC : CsR 3 75 w vl ds zs) :
    Cl Try.prog 15 #[.agg #[.int .i64 N, va], vl] w fun v w' => v = .bool true ∧ Le w w' := by
  refine fn_of_run (args := [_, _]) 56 Try.func15 rfl rfl rfl fun cs => ?_
  have S := Own.start (X := nob) w
  refine r_seq ?_
  refine r_region ?_
  refine l_box S rfl rfl ?_
  intro b4 w1 S2 hl3
  refine l_x rfl (x_as rfl) ?_
  refine l_nil ?_
  refine r_seq ?_
  refine r_seq ?_
  refine r_region ?_
  refine l_x rfl (x_load rfl (ld_blks (S2.blk 0 rfl) Try.isAgg24 Try.sizeOf24 rfl rfl)) ?_
  refine l_call [] [] [_] rfl rfl Try.call18 rfl (c_small _ _ _ _ (hA.le S2.le)) ?_
  rintro _ w5 ⟨rfl, hl7⟩
  have S6 := S2.step hl7
  refine l_x rfl (x_not rfl) ?_
  refine l_x rfl (x_mv rfl) ?_
  refine l_split (d := 13) rfl (fun hg13 => ?_) (fun hg13 => ?_)
  · skip
    refine l_pass rfl ?_
    refine l_pass rfl ?_
    refine l_pass rfl ?_
    refine l_x rfl (x_pick_t rfl rfl) ?_
    refine l_nil ?_
    refine r_true rfl ?_
    refine r_seq ?_
    refine r_region ?_
    refine l_call [] [] [] rfl rfl Try.call19 rfl (c_flowing _) ?_
    rintro _ w8 ⟨rfl, hl10⟩
    have S9 := S6.step hl10
    refine l_x rfl (x_as rfl) ?_
    refine l_nil ?_
    refine r_ret (rs := [.tmp 4]) [_] Try.func15 rfl ⟨rfl, trivial⟩ ?_
    exact ⟨rfl, S9.le⟩
  · skip
    refine l_x rfl (x_mv rfl) ?_
    refine l_x rfl (x_len (hC.rd.le S6.le) rfl Try.runUnderlying73) ?_
    refine l_x rfl (x_gtr rfl rfl) ?_
    refine l_x rfl (x_pick_f rfl rfl) ?_
    refine l_nil ?_
    refine r_ifd rfl (fun hc17 => ?_) (fun hc17 => ?_)
    · skip
      refine r_seq ?_
      refine r_region ?_
      refine l_call [] [] [] rfl rfl Try.call19 rfl (c_flowing _) ?_
      rintro _ w11 ⟨rfl, hl13⟩
      have S12 := S6.step hl13
      refine l_x rfl (x_as rfl) ?_
      refine l_nil ?_
      refine r_ret (rs := [.tmp 4]) [_] Try.func15 rfl ⟨rfl, trivial⟩ ?_
      exact ⟨rfl, S12.le⟩
    · skip
      refine r_skip ?_
      refine r_seq ?_
      refine r_seq ?_
      refine r_region ?_
      refine l_x rfl (x_as rfl) ?_
      refine l_nil ?_
      refine r_block ?_
      refine r_loop (G := Nat) (fun i => ds.length - i) (fun i => [(2, .pointer (some ⟨b4, 0, none⟩)), (1, vl), (5, .int .i64 i)]) (fun i w' => (i ≤ ds.length) ∧ (∀ c ∈ zs.take i, c.1.length ≤ 100) ∧ Own nob w w' [blk b4 [.int .i64 N, va] 24]) 0 ⟨rfl, rfl, rfl, trivial⟩ ⟨Nat.zero_le _, by simp, (S6.take 1)⟩ ?_
      rintro i ρ w1 ⟨hi, hlen, S1⟩ IH
      refine r_seq ?_
      refine r_seq ?_
      refine r_region ?_
      refine l_x rfl (x_mv rfl) ?_
      refine l_x rfl (x_mv rfl) ?_
      refine l_x rfl (x_len (hC.rd.le S1.le) rfl Try.runUnderlying73) ?_
      refine l_x rfl (x_lss rfl rfl) ?_
      refine l_nil ?_
      refine r_ifd rfl (fun hc22 => ?_) (fun hc22 => ?_)
      · skip
        have hCl := hC.len
        obtain ⟨⟨dh, dm⟩, hdd⟩ : ∃ d, ds[i]? = some d := ⟨_, List.getElem?_eq_getElem (by omega)⟩
        obtain ⟨c, hcs⟩ : ∃ c, zs[i]? = some c := ⟨_, List.getElem?_eq_getElem (by omega)⟩
        obtain ⟨hE1, hE2⟩ := hC.each i _ _ hdd hcs
        simp only at hE1 hE2
        subst hE2
        refine r_skip ?_
        refine r_seq ?_
        refine r_block ?_
        refine r_seq ?_
        refine r_region ?_
        refine l_x rfl (x_mv rfl) ?_
        refine l_x rfl (x_mv rfl) ?_
        refine l_index EC rfl (hC.rd.le S1.le) rfl rfl Try.runUnderlying73 Try.sizeOf75 (by omega) hdd ?_
        intro b14 o15 hat16 row17
        refine l_x rfl (x_fieldAddr rfl Try.runUnderlying75 rfl Try.sizeOf25 (by decide)) ?_
        refine l_x rfl (x_load rfl (ld_cell Try.isAgg25 (row17 0 _ rfl))) ?_
        refine l_x rfl (x_len (hE1.le S1.le) rfl Try.runUnderlying25) ?_
        refine l_x rfl (x_gtr rfl rfl) ?_
        refine l_nil ?_
        refine r_ifd rfl (fun hc31 => ?_) (fun hc31 => ?_)
        · skip
          refine r_seq ?_
          refine r_region ?_
          refine l_call [] [] [] rfl rfl Try.call19 rfl (c_flowing _) ?_
          rintro _ w18 ⟨rfl, hl20⟩
          have S19 := S1.step hl20
          refine l_x rfl (x_as rfl) ?_
          refine l_nil ?_
          refine r_ret (rs := [.tmp 4]) [_] Try.func15 rfl ⟨rfl, trivial⟩ ?_
          exact ⟨rfl, S19.le⟩
        · skip
          refine r_skip ?_
          refine r_inBlock ?_
          refine r_region ?_
          refine l_x rfl (x_mv rfl) ?_
          refine l_x rfl (x_add rfl rfl (by omega)) ?_
          refine l_x rfl (x_as rfl) ?_
          refine l_nil ?_
          exact IH (i + 1) _ _ (by omega) ⟨rfl, rfl, rfl, trivial⟩ ⟨by omega, len_step hlen hcs hc31, (S1.take 1)⟩
      · skip
        have hCl := hC.len
        have hie : i = ds.length := by omega
        subst hie
        have hct : zs.take ds.length = zs := List.take_of_length_le (by omega)
        rw [hct] at hlen
        refine r_exit rfl ?_
        refine r_seq ?_
        refine r_region ?_
        refine l_x rfl (x_load rfl (ld_blks (S1.blk 0 rfl) Try.isAgg24 Try.sizeOf24 rfl rfl)) ?_
        refine l_x rfl (x_mv rfl) ?_
        refine l_call [] [] [_, _] rfl rfl Try.call57 rfl (c_FromCircles _ _ _ _ _ zs (fun c hc => by have := hlen c hc; omega) (by omega) _ (hA.le S1.le) (hC.le S1.le)) ?_
        rintro _ w21 ⟨s3621, l3621, e3621, rfl, hN3621, hl3621, hR3621⟩
        have S22 := S1.add hl3621 hN3621
        have hR1 := hR3621
        refine l_x rfl (x_mv rfl) ?_
        refine l_x rfl (x_extract rfl rfl) ?_
        refine l_x rfl (x_extract rfl rfl) ?_
        refine l_x rfl (x_as rfl) ?_
        refine l_x rfl (x_as rfl) ?_
        refine l_nil ?_
        refine r_seq ?_
        refine r_region ?_
        refine l_x rfl (x_load rfl (ld_blks (S22.blk 0 rfl) Try.isAgg24 Try.sizeOf24 rfl rfl)) ?_
        refine l_x rfl (x_mv rfl) ?_
        refine l_call [] [] [_, _] rfl rfl Try.call58 rfl (c_rFromCircles _ _ _ _ _ zs (fun c hc => by have := hlen c hc; omega) (by omega) _ (hA.le S22.le) (hC.le S22.le)) ?_
        rintro _ w23 ⟨s4223, l4223, e4223, rfl, hN4223, hl4223, hR4223⟩
        have S24 := S22.add hl4223 hN4223
        obtain ⟨rfl, rfl⟩ := hR1.same hR4223
        refine l_x rfl (x_mv rfl) ?_
        refine l_x rfl (x_extract rfl rfl) ?_
        refine l_x rfl (x_extract rfl rfl) ?_
        refine l_x rfl (x_as rfl) ?_
        refine l_x rfl (x_as rfl) ?_
        refine l_nil ?_
        refine r_seq ?_
        refine r_region ?_
        refine l_call [] [] [] rfl rfl Try.call19 rfl (c_flowing _) ?_
        rintro _ w25 ⟨rfl, hl27⟩
        have S26 := S24.step hl27
        refine l_x rfl (x_mv rfl) ?_
        refine l_x rfl (x_mv rfl) ?_
        refine l_x rfl (x_mv rfl) ?_
        refine l_x rfl (x_eql rfl rfl) ?_
        refine l_x rfl (x_pick_t rfl rfl) ?_
        refine l_x rfl (x_mv rfl) ?_
        refine l_splitd (d := 51) rfl (fun hg51 => ?_) (fun hg51 => ?_)
        · skip
          refine l_x rfl (x_mv rfl) ?_
          refine l_x rfl (x_mv rfl) ?_
          refine l_call [] [] [_, _] rfl rfl Try.call29 rfl (c_SameInts _ _ _ _ (by have := hR1.len; omega) _ (vec_rd (S26.at 1 rfl)) (vec_rd (S26.at 2 rfl))) ?_
          rintro _ w28 ⟨rfl, hl30⟩
          have S29 := S26.step hl30
          refine l_x rfl (x_pick_t rfl rfl) ?_
          refine l_x rfl (x_as rfl) ?_
          refine l_nil ?_
          refine r_ret (rs := [.tmp 4]) [_] Try.func15 rfl ⟨rfl, trivial⟩ ?_
          exact ⟨congrArg Value.bool (decide_eq_true (by rfl)), S29.le⟩
        · exact absurd rfl hg51

end Go.Proofs

/-
  The statement of FlowCircles: for every input the law returns true, and its arguments read as they did. No condition.
-/
namespace Go.Proofs
open Go Go.Vk Go.Vk.Flow

open Go.ChangeShapes Go.WideShapes Go.RowKit Go.Joins
namespace Ytddapgjjndbejaa
set_option maxRecDepth 100000 in
theorem liftedCircles (os : Os) (started : os.Started) (H : Type) (enc : TypeId × Value → H) :
    ReturnsInHanded {} Try.checked os 15 .any (Rows.flowCirclesSpec.pre6 enc Try.prog Try.f15 Rows.flowCirclesRow.domain false) (Rows.flowCirclesSpec.post enc Try.prog Try.f15 false true false false) := by
  refine returnsInHanded_of_change (C := Try.checked) ownT started (by kernel_rfl) Try.func15
    (ChangeSpec.witness6 (enc := enc) (C := Try.checked) false ⟨#[], #[.agg #[.int .i64 0, .slice none 0 0], .slice none 0 0], []⟩ 8 (by kernel_rfl) (by kernel_rfl) (by kernel_rfl) (by kernel_rfl)) ?_
  intro W base args ds gs before hval0 hW hcnd _
  have hval : ∀ (j : Nat) t v, Try.f15.params[j]? = some t → args[j]? = some v → Value.okWide Try.prog W .any base t v := hval0
  have hW' := hW
  obtain ⟨p, q, hA0, hV, rfl, hfz, hnd⟩ := hW
  have hA : DataW.TrodAll enc Try.prog W 0 (fun _ => true) true Try.f15.params.toList args.toList ds p := hA0
  rw [Try.params15] at hA hval
  obtain ⟨v0, vs0, d0, ds0, p0, q0, hargs, rfl, rfl, h0, r0⟩ := trodAll_cons hA
  obtain ⟨v1, vs1, d1, ds1, p1, q1, rfl, rfl, rfl, h1, r1⟩ := trodAll_cons r0
  obtain ⟨rfl, rfl, rfl⟩ := trodAll_nil r1
  obtain rfl : args = #[v0, v1] := by cases args; simp_all
  obtain ⟨rfl, rfl⟩ := trodVars_none hV
  obtain ⟨N0, va0, arcs0, rfl, hQ0, hm0⟩ := openNet (hval 0 24 v0 rfl rfl) h0
  obtain ⟨ds1, zs1, hQ1, hm1⟩ := openCirs (hval 1 73 v1 rfl rfl) h1
  clear hA0 hval0
  exact (lawCircles N0 va0 arcs0 _ ds1 zs1 (by unfold maxLen at hm1; omega) W hQ0 hQ1).mono fun v W' ⟨hv, hle⟩ => by
    subst hv
    exact post_law hW' laidT (by rw [Try.params15]; exact fun t ht => by revert t; decide +kernel) (by kernel_rfl) Try.underlying4 rfl rfl rfl rfl hle
/-- FlowCircles: whatever the input, the law returns true, and its arguments read as they did. -/
theorem flowCircles : Rows.FlowCirclesSaid :=
  OpenClaim.holds_of_wide 15 Try.f15 rfl rfl rfl rfl rfl rfl rfl ⟨rfl, rfl, rfl, rfl, rfl⟩ rfl rfl rfl rfl rfl (by kernel_rfl) Try.func15 (by kernel_rfl)
    (of_decide_eq_true (by kernel_rfl)) (by unfold Func.isWrapper; rw [if_neg (of_decide_eq_false (by kernel_rfl))]; exact ⟨rfl, rfl⟩)
    (fun os started H enc _ => liftedCircles os started H enc)
#print axioms flowCircles
end Ytddapgjjndbejaa

end Go.Proofs
