/- Texts joined for claims: LReaches. -/
import Derived.Test.YtdikpjkdbgfoaaaGreatK3919d05959
/-
  Contracts of functions of the program: each by symbolic execution of its text.
-/
namespace Go.Proofs
open Go Go.Vk Go.Vk.Flow

open Go.Vk.Deed
theorem lin_len (l : List D) (known day o : Int) (hR : rightD l = true) : (lineageD l known day o).length ≤ 1000000 := by
  unfold lineageD
  split
  · have hP : Part (counting l known).length (startL l (counting l known) day o) := ⟨_, rfl⟩
    have h1 := nodup_le (part_nd (lin_part (l := l) hP (counting l known).length)) fun k hk => List.mem_range.2 (part_lt (lin_part (l := l) hP (counting l known).length) k hk)
    rw [List.length_range] at h1
    have h2 := count_len (known := known) hR
    unfold Go.Vk.Deed.asc
    rw [List.length_mergeSort, List.length_map]
    exact Nat.le_trans h1 (by omega)
  · exact Nat.zero_le _

set_option maxHeartbeats 4000000 in
/-- couchant/couchantlaw02.DeedReaches. -/
theorem lawReaches (rs : List Rw) (vl : Value) (a : Rw) (day o : Int) (w : World) (hD : DsR 26 3 w vl rs) (hA : SubR 3 w a) :
    Cl Tryz.prog 7 #[vl, .agg (encD a).toArray, .int .i64 day, .int .i64 o] w fun v w' => v = .bool true ∧ Le w w' := by
  refine fn_of_run (args := [_, _, _, _]) 78 Tryz.func7 rfl rfl rfl fun cs => ?_
  have S := Own.start (X := nob) w
  refine r_seq ?_
  refine r_region ?_
  refine l_box S rfl rfl ?_
  intro b4 w1 S2 hl3
  refine l_x rfl (x_as rfl) ?_
  refine l_nil ?_
  refine r_seq ?_
  refine r_seq ?_
  refine r_region ?_
  refine l_x rfl (x_mv rfl) ?_
  refine l_call [] [] [_] rfl rfl Tryz.call41 rfl (c_valid rs _ _ (hD.le S2.le)) ?_
  rintro _ w5 ⟨rfl, hl7⟩
  have S6 := S2.step hl7
  refine l_x rfl (x_not rfl) ?_
  refine l_x rfl (x_mv rfl) ?_
  refine l_split (d := 16) rfl (fun hg16 => ?_) (fun hg16 => ?_)
  · skip
    refine l_pass rfl ?_
    refine l_pass rfl ?_
    refine l_pass rfl ?_
    refine l_x rfl (x_pick_t rfl rfl) ?_
    refine l_x rfl (x_mv rfl) ?_
    refine l_pass rfl ?_
    refine l_pass rfl ?_
    refine l_pass rfl ?_
    refine l_x rfl (x_pick_t rfl rfl) ?_
    refine l_x rfl (x_mv rfl) ?_
    refine l_pass rfl ?_
    refine l_pass rfl ?_
    refine l_x rfl (x_pick_t rfl rfl) ?_
    refine l_x rfl (x_mv rfl) ?_
    refine l_pass rfl ?_
    refine l_pass rfl ?_
    refine l_x rfl (x_pick_t rfl rfl) ?_
    refine l_nil ?_
    refine r_true rfl ?_
    refine r_seq ?_
    refine r_region ?_
    refine l_call [] [] [] rfl rfl Tryz.call23 rfl (c_enteredX _) ?_
    rintro _ w8 ⟨rfl, hl10⟩
    have S9 := S6.step hl10
    refine l_x rfl (x_as rfl) ?_
    refine l_nil ?_
    refine r_ret (rs := [.tmp 8]) [_] Tryz.func7 rfl ⟨rfl, trivial⟩ ?_
    exact ⟨rfl, S9.le⟩
  · skip
    have hV : fewB (dl rs) = true ∧ rightD (dl rs) = true := by simpa using hg16
    have hR := hV.2
    refine l_x rfl (x_load rfl (ld_blks (S6.blk 0 rfl) Tryz.isAgg26 Tryz.sizeOf26 rfl rfl)) ?_
    refine l_call [] [] [_] rfl rfl Tryz.call26 rfl (c_plain a _ (hA.le S6.le)) ?_
    rintro _ w11 ⟨rfl, hl13⟩
    have S12 := S6.step hl13
    refine l_x rfl (x_not rfl) ?_
    refine l_x rfl (x_pick_f rfl rfl) ?_
    refine l_x rfl (x_mv rfl) ?_
    refine l_split (d := 21) rfl (fun hg21 => ?_) (fun hg21 => ?_)
    · skip
      refine l_pass rfl ?_
      refine l_pass rfl ?_
      refine l_pass rfl ?_
      refine l_x rfl (x_pick_t rfl rfl) ?_
      refine l_x rfl (x_mv rfl) ?_
      refine l_pass rfl ?_
      refine l_pass rfl ?_
      refine l_x rfl (x_pick_t rfl rfl) ?_
      refine l_x rfl (x_mv rfl) ?_
      refine l_pass rfl ?_
      refine l_pass rfl ?_
      refine l_x rfl (x_pick_t rfl rfl) ?_
      refine l_nil ?_
      refine r_true rfl ?_
      refine r_seq ?_
      refine r_region ?_
      refine l_call [] [] [] rfl rfl Tryz.call23 rfl (c_enteredX _) ?_
      rintro _ w14 ⟨rfl, hl16⟩
      have S15 := S12.step hl16
      refine l_x rfl (x_as rfl) ?_
      refine l_nil ?_
      refine r_ret (rs := [.tmp 8]) [_] Tryz.func7 rfl ⟨rfl, trivial⟩ ?_
      exact ⟨rfl, S15.le⟩
    · skip
      refine l_x rfl (x_fieldAddr rfl Tryz.runUnderlying26 rfl Tryz.sizeOf5 (by decide)) ?_
      refine l_x rfl (x_load rfl (ld_blk (S12.blk 0 rfl) Tryz.isAgg5 rfl)) ?_
      refine l_x rfl (x_eql rfl rfl) ?_
      refine l_x rfl (x_pick_f rfl rfl) ?_
      refine l_x rfl (x_mv rfl) ?_
      refine l_splitd (d := 26) rfl (fun hg26 => ?_) (fun hg26 => ?_)
      · skip
        refine l_pass rfl ?_
        refine l_pass rfl ?_
        refine l_x rfl (x_pick_t rfl rfl) ?_
        refine l_x rfl (x_mv rfl) ?_
        refine l_pass rfl ?_
        refine l_pass rfl ?_
        refine l_x rfl (x_pick_t rfl rfl) ?_
        refine l_nil ?_
        refine r_true rfl ?_
        refine r_seq ?_
        refine r_region ?_
        refine l_call [] [] [] rfl rfl Tryz.call23 rfl (c_enteredX _) ?_
        rintro _ w17 ⟨rfl, hl19⟩
        have S18 := S12.step hl19
        refine l_x rfl (x_as rfl) ?_
        refine l_nil ?_
        refine r_ret (rs := [.tmp 8]) [_] Tryz.func7 rfl ⟨rfl, trivial⟩ ?_
        exact ⟨rfl, S18.le⟩
      · skip
        refine l_x rfl (x_mv rfl) ?_
        refine l_x rfl (x_lss rfl rfl) ?_
        refine l_x rfl (x_pick_f rfl rfl) ?_
        refine l_x rfl (x_mv rfl) ?_
        refine l_splitd (d := 30) rfl (fun hg30 => ?_) (fun hg30 => ?_)
        · skip
          refine l_pass rfl ?_
          refine l_pass rfl ?_
          refine l_x rfl (x_pick_t rfl rfl) ?_
          refine l_nil ?_
          refine r_true rfl ?_
          refine r_seq ?_
          refine r_region ?_
          refine l_call [] [] [] rfl rfl Tryz.call23 rfl (c_enteredX _) ?_
          rintro _ w20 ⟨rfl, hl22⟩
          have S21 := S12.step hl22
          refine l_x rfl (x_as rfl) ?_
          refine l_nil ?_
          refine r_ret (rs := [.tmp 8]) [_] Tryz.func7 rfl ⟨rfl, trivial⟩ ?_
          exact ⟨rfl, S21.le⟩
        · skip
          refine l_x rfl (x_mv rfl) ?_
          refine l_x rfl (x_gtr rfl rfl) ?_
          refine l_x rfl (x_pick_f rfl rfl) ?_
          refine l_nil ?_
          refine r_ifd rfl (fun hc33 => ?_) (fun hc33 => ?_)
          · skip
            refine r_seq ?_
            refine r_region ?_
            refine l_call [] [] [] rfl rfl Tryz.call23 rfl (c_enteredX _) ?_
            rintro _ w23 ⟨rfl, hl25⟩
            have S24 := S12.step hl25
            refine l_x rfl (x_as rfl) ?_
            refine l_nil ?_
            refine r_ret (rs := [.tmp 8]) [_] Tryz.func7 rfl ⟨rfl, trivial⟩ ?_
            exact ⟨rfl, S24.le⟩
          · skip
            refine r_skip ?_
            refine r_seq ?_
            refine r_region ?_
            refine l_x rfl (x_mv rfl) ?_
            refine l_x rfl (x_load rfl (ld_blks (S12.blk 0 rfl) Tryz.isAgg26 Tryz.sizeOf26 rfl rfl)) ?_
            refine l_call [] [] [_, _] rfl rfl Tryz.call42 rfl (c_Append rs vl a _ (hD.le S12.le) (hA.le S12.le)) ?_
            rintro _ w26 ⟨s1, rs1, e1, rfl, he1, hrs1, h28⟩
            have S27 := S12.join h28
            refine l_x rfl (x_mv rfl) ?_
            refine l_x rfl (x_extract rfl rfl) ?_
            refine l_x rfl (x_extract rfl rfl) ?_
            refine l_x rfl (x_as rfl) ?_
            refine l_x rfl (x_as rfl) ?_
            refine l_nil ?_
            refine r_seq ?_
            refine r_seq ?_
            refine r_region ?_
            refine l_x rfl (x_mv rfl) ?_
            refine l_x rfl (x_neq rfl rfl) ?_
            refine l_nil ?_
            refine r_ifd rfl (fun hc42 => ?_) (fun hc42 => ?_)
            · skip
              have hz : rs1.length = 0 := by rw [← dl_len, hrs1, append_no (by rw [← he1]; exact hc42)]; rfl
              refine r_seq ?_
              refine r_region ?_
              refine l_call [] [] [] rfl rfl Tryz.call23 rfl (c_enteredX _) ?_
              rintro _ w29 ⟨rfl, hl31⟩
              have S30 := S27.step hl31
              refine l_x rfl (x_mv rfl) ?_
              refine l_x rfl (x_mv rfl) ?_
              refine l_x rfl (x_len (vec_rd (S30.at 1 rfl)) rfl Tryz.runUnderlying23) ?_
              refine l_x rfl (x_eql rfl rfl) ?_
              refine l_x rfl (x_pick_t rfl rfl) ?_
              refine l_x rfl (x_as rfl) ?_
              refine l_nil ?_
              refine r_ret (rs := [.tmp 8]) [_] Tryz.func7 rfl ⟨rfl, trivial⟩ ?_
              exact ⟨congrArg Value.bool (decide_eq_true (by omega)), S30.le⟩
            · skip
              have he0 := Decidable.not_not.1 hc42
              have h0 := he1.symm.trans he0
              have hh1 := app_dl h0 hrs1 (fun x hx => ⟨(hD.sub x hx).hm, (hD.sub x hx).sm⟩) ⟨hA.hm, hA.sm⟩
              have hm1 : dl rs1 = dl rs ++ [a.1] := hrs1.trans (append_ok h0)
              have hR1 : rightD (dl rs1) = true := by rw [hm1]; exact append_right h0
              refine r_skip ?_
              refine r_seq ?_
              refine r_region ?_
              refine l_x rfl (x_mv rfl) ?_
              refine l_x rfl (x_fieldAddr rfl Tryz.runUnderlying26 rfl Tryz.sizeOf3 (by decide)) ?_
              refine l_x rfl (x_load rfl (ld_blk (S27.blk 0 rfl) Tryz.isAgg3 rfl)) ?_
              refine l_x rfl (x_mv rfl) ?_
              refine l_x rfl (x_mv rfl) ?_
              refine l_call [] [] [_, _, _, _] rfl rfl Tryz.call36 rfl (c_Uses rs vl a.1.known day o _ (hD.le S27.le)) ?_
              rintro _ w32 ⟨rfl, hl34⟩
              have S33 := S27.step hl34
              refine l_x rfl (x_as rfl) ?_
              refine l_nil ?_
              refine r_seq ?_
              refine r_region ?_
              refine l_x rfl (x_mv rfl) ?_
              refine l_x rfl (x_fieldAddr rfl Tryz.runUnderlying26 rfl Tryz.sizeOf3 (by decide)) ?_
              refine l_x rfl (x_load rfl (ld_blk (S33.blk 0 rfl) Tryz.isAgg3 rfl)) ?_
              refine l_x rfl (x_mv rfl) ?_
              refine l_x rfl (x_mv rfl) ?_
              refine l_call [] [] [_, _, _, _] rfl rfl Tryz.call36 rfl (c_Uses rs1 s1 a.1.known day o _ (dnest_dsr (S33.at 1 rfl) (S33.at 2 rfl) hh1.1 (by have := hh1.2; omega))) ?_
              rintro _ w35 ⟨rfl, hl37⟩
              have S36 := S33.step hl37
              refine l_x rfl (x_as rfl) ?_
              refine l_nil ?_
              refine r_seq ?_
              refine r_drawE 18 nob Tryz.mixed (by kernel_rfl) ?_
              intro w38 hl39
              have S40 := S36.step hl39
              refine e_next [0] (by kernel_rfl) (by kernel_rfl) ⟨⟨_, _, rfl, rfl, ?_⟩, trivial⟩
              refine s_callf [] [] [] rfl rfl Tryz.call23 rfl ((c_enteredX _).mono ?_)
              rintro _ w41 ⟨rfl, hl43⟩
              have S42 := S40.step hl43
              refine ⟨.of_le hl43, ?_⟩
              refine e_exact 1 _ (by kernel_rfl) rfl rfl (by kernel_rfl) rfl (ex_x rfl (fun w1 h1 => x_mv rfl)) ?_
              refine e_exact 2 _ (by kernel_rfl) rfl rfl (by kernel_rfl) rfl (ex_x rfl (fun w1 h1 => x_mv rfl)) ?_
              refine e_exact 3 _ (by kernel_rfl) rfl rfl (by kernel_rfl) rfl (ex_x rfl (fun w1 h1 => x_mv rfl)) ?_
              refine e_exact 4 _ (by kernel_rfl) rfl rfl (by kernel_rfl) rfl (ex_x rfl (fun w1 h1 => x_eql rfl rfl)) ?_
              refine e_exact 5 _ (by kernel_rfl) rfl rfl (by kernel_rfl) rfl (ex_x rfl (fun w1 h1 => x_mv rfl)) ?_
              refine e_splitd (d := 66) rfl (fun hg66 => ?_) (fun hg66 => ?_)
              · skip
                refine e_exact 6 _ (by kernel_rfl) rfl rfl (by kernel_rfl) rfl (ex_pass rfl) ?_
                refine e_exact 7 _ (by kernel_rfl) rfl rfl (by kernel_rfl) rfl (ex_pass rfl) ?_
                refine e_exact 8 _ (by kernel_rfl) rfl rfl (by kernel_rfl) rfl (ex_pass rfl) ?_
                refine e_exact 9 _ (by kernel_rfl) rfl rfl (by kernel_rfl) rfl (ex_pass rfl) ?_
                refine e_exact 10 _ (by kernel_rfl) rfl rfl (by kernel_rfl) rfl (ex_pass rfl) ?_
                refine e_exact 11 _ (by kernel_rfl) rfl rfl (by kernel_rfl) rfl (ex_pass rfl) ?_
                refine e_exact 12 _ (by kernel_rfl) rfl rfl (by kernel_rfl) rfl (ex_pass rfl) ?_
                refine e_exact 13 _ (by kernel_rfl) rfl rfl (by kernel_rfl) rfl (ex_pass rfl) ?_
                refine e_exact 14 _ (by kernel_rfl) rfl rfl (by kernel_rfl) rfl (ex_pass rfl) ?_
                refine e_exact 15 _ (by kernel_rfl) rfl rfl (by kernel_rfl) rfl (ex_x rfl (fun w1 h1 => x_pick_t rfl rfl)) ?_
                refine e_exact 16 _ (by kernel_rfl) rfl rfl (by kernel_rfl) rfl (ex_x rfl (fun w1 h1 => x_pick_t rfl rfl)) ?_
                refine e_exact 17 _ (by kernel_rfl) rfl rfl (by kernel_rfl) rfl (ex_x rfl (fun w1 h1 => x_as rfl)) ?_
                refine e_done (by kernel_rfl) ?_
                refine l_nil ?_
                refine r_ret (rs := [.tmp 8]) [_] Tryz.func7 rfl ⟨rfl, trivial⟩ ?_
                exact ⟨rfl, S42.le⟩
              · skip
                refine e_exact 6 _ (by kernel_rfl) rfl rfl (by kernel_rfl) rfl (ex_x rfl (fun w1 h1 => x_mv rfl)) ?_
                refine e_exact 7 _ (by kernel_rfl) rfl rfl (by kernel_rfl) rfl (ex_x rfl (fun w1 h1 => x_fieldAddr rfl Tryz.runUnderlying26 rfl Tryz.sizeOf3 (by decide))) ?_
                refine e_exact 8 _ (by kernel_rfl) rfl rfl (by kernel_rfl) rfl (ex_x rfl (fun w1 h1 => x_load rfl (ld_blk ((S42.step h1).blk 0 rfl) Tryz.isAgg3 rfl))) ?_
                refine e_exact 9 _ (by kernel_rfl) rfl rfl (by kernel_rfl) rfl (ex_x rfl (fun w1 h1 => x_mv rfl)) ?_
                refine e_exact 10 _ (by kernel_rfl) rfl rfl (by kernel_rfl) rfl (ex_x rfl (fun w1 h1 => x_mv rfl)) ?_
                refine e_exact 12 _ (by kernel_rfl) rfl rfl (by kernel_rfl) rfl (ex_x rfl (fun w1 h1 => x_fieldAddr rfl Tryz.runUnderlying26 rfl Tryz.sizeOf3 (by decide))) ?_
                refine e_exact 13 _ (by kernel_rfl) rfl rfl (by kernel_rfl) rfl (ex_x rfl (fun w1 h1 => x_load rfl (ld_blk ((S42.step h1).blk 0 rfl) Tryz.isAgg3 rfl))) ?_
                refine e_next [11] (by kernel_rfl) (by kernel_rfl) ⟨⟨_, _, rfl, rfl, ?_⟩, trivial⟩
                refine s_callf [] [] [_, _, _, _] rfl rfl Tryz.call44 rfl ((c_Lineage rs1 s1 a.1.known day o _ (dnest_dsr (S42.at 1 rfl) (S42.at 2 rfl) hh1.1 (by have := hh1.2; omega))).mono ?_)
                rintro v7244 w44 ⟨hN7244, hl7244⟩
                have S45 := S42.add hl7244 hN7244
                refine ⟨.of_le hl7244, ?_⟩
                refine e_next [14] (by kernel_rfl) (by kernel_rfl) ⟨⟨_, _, rfl, rfl, ?_⟩, trivial⟩
                refine s_callf [] [] [_, _] rfl rfl Tryz.call43 rfl ((c_has _ _ _ (by have := lin_len (dl rs1) a.1.known day o hR1; omega) _ (vec_rd (S45.at 3 rfl))).mono ?_)
                rintro _ w46 ⟨rfl, hl48⟩
                have S47 := S45.step hl48
                refine ⟨.of_le hl48, ?_⟩
                refine e_exact 15 _ (by kernel_rfl) rfl rfl (by kernel_rfl) rfl (ex_x rfl (fun w1 h1 => x_pick_f rfl rfl)) ?_
                refine e_exact 16 _ (by kernel_rfl) rfl rfl (by kernel_rfl) rfl (ex_x rfl (fun w1 h1 => x_pick_t rfl rfl)) ?_
                refine e_exact 17 _ (by kernel_rfl) rfl rfl (by kernel_rfl) rfl (ex_x rfl (fun w1 h1 => x_as rfl)) ?_
                refine e_done (by kernel_rfl) ?_
                refine l_nil ?_
                refine r_ret (rs := [.tmp 8]) [_] Tryz.func7 rfl ⟨rfl, trivial⟩ ?_
                exact ⟨congrArg Value.bool (List.contains_iff_mem.2 (Classical.byContradiction fun hn => hg66 (by rw [hm1] at hn ⊢; exact rest_more h0 hg26 hn))), S47.le⟩

end Go.Proofs
