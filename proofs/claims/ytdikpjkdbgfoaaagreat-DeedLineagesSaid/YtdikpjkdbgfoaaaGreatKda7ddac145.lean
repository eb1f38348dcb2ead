/- Texts joined for claims: G16, F26, G17, G18, F29. -/
import Derived.Test.YtdikpjkdbgfoaaaGreatK4b8a3de83f
import Derived.Test.YtdikpjkdbgfoaaaGreatKe780c7f77a
import Derived.Test.YtdikpjkdbgfoaaaGreatKc0c8622e65
import Derived.Test.YtdikpjkdbgfoaaaGreatK5095efb366
import Derived.Test.YtdikpjkdbgfoaaaGreatK8e77b52716
set_option linter.unusedVariables false
set_option linter.unusedSimpArgs false
set_option linter.unusedSectionVars false
namespace Go.Proofs
open Go Go.Vk Go.Vk.Flow

open Go.Vk.Deed

set_option maxHeartbeats 4000000 in
theorem c_rnames (rs : List Rw) (vl : Value) (a : Rw) (hfm : ∀ y ∈ dl rs, formed y = true) (hfa : formed a.1 = true) (hof : a.1.kind = 6 ∨ a.1.kind = 7 → 1 ≤ a.1.of ∧ ∃ b, rs[(a.1.of - 1).toNat]? = some b) (w : World) (hD : DsR 26 3 w vl rs) (hA : SubR 3 w a) :
  Cl Tryz.prog 128 #[vl, .agg (encD a).toArray] w fun v w' => New w w' (vec EI v (nm (dl rs) a.1)) ∧ Le w w' := by
 have hla := formed_lens hfa
 have hml := hD.lm
 refine fn_of_run (args := [_, _]) 41 Tryz.func128 rfl rfl rfl fun cs => ?_
 have S := Own.start (X := nob) w
 refine r_seq ?_
 refine r_region ?_
 refine l_box S rfl rfl ?_
 intro b4 w1 S2 hl3
 refine l_a rfl ?_
 refine l_nil ?_
 refine r_seq ?_
 refine r_seq ?_
 refine r_region ?_
 refine l_x rfl (x_fieldAddr rfl Tryz.runUnderlying26 rfl Tryz.sizeOf5 (by decide)) ?_
 refine l_x rfl (x_load rfl (ld_blk (S2.blk 0 rfl) Tryz.isAgg5 rfl)) ?_
 refine l_x rfl (x_eql rfl rfl) ?_
 refine l_m rfl ?_
 refine l_splitd (d := 9) rfl (fun hg9 => ?_) (fun hg9 => ?_)
 ·skip
  refine l_pass rfl ?_
  refine l_pass rfl ?_
  refine l_pass rfl ?_
  refine l_x rfl (x_pick_t rfl rfl) ?_
  refine l_nil ?_
  refine r_true rfl ?_
  obtain ⟨ho1, b, hb⟩ := hof (by omega)
  have hbl := (List.getElem?_eq_some_iff.1 hb).1
  have hbm := List.mem_of_getElem? hb
  have hly := formed_lens (hfm b.1 (mem_dl hbm))
  refine r_region ?_
  refine l_m rfl ?_
  refine l_x rfl (x_fieldAddr rfl Tryz.runUnderlying26 rfl Tryz.sizeOf3 (by decide)) ?_
  refine l_x rfl (x_load rfl (ld_blk (S2.blk 0 rfl) Tryz.isAgg3 rfl)) ?_
  refine l_x rfl (x_sub rfl rfl (by omega)) ?_
  refine l_index ED rfl (hD.rd.le S2.le) rfl rfl Tryz.runUnderlying23 Tryz.sizeOf26 (by omega) hb ?_
  intro b5 o6 hat7 row8
  refine l_x rfl (x_load rfl (ld_row Tryz.isAgg26 Tryz.sizeOf26 rfl row8)) ?_
  refine l_stores (vs := [_, _, _, _, _, _, _, _, _, _, _]) S2 0 rfl rfl rfl rfl (ones_cons rfl (ones_cons rfl (ones_cons rfl (ones_cons rfl (ones_cons rfl (ones_cons rfl (ones_cons rfl (ones_cons rfl (ones_cons rfl (ones_cons (Rd.one ((hD.sub _ hbm).1.le S2.le)) (ones_cons (Rd.one ((hD.sub _ hbm).2.le S2.le)) ones_nil))))))))))) Tryz.sizeOf26 (by first | exact Nat.le_refl _ | simp) (splice_all rfl) ?_
  intro w9 S10 hk11
  refine l_nil ?_
  refine r_seq ?_
  refine r_region ?_
  refine l_buildSlice EI [] S10 rfl Tryz.runUnderlying24 Tryz.sizeOf3 Tryz.zeroValue3 rfl trivial (Nat.le_of_ble_eq_true rfl) ?_
  intro v15 w12 S13 hl14
  refine l_x rfl (x_fieldAddr rfl Tryz.runUnderlying26 rfl Tryz.sizeOf24 (by decide)) ?_
  refine l_x rfl (x_load rfl (ld_blk (S13.blk 0 rfl) Tryz.isAgg24 rfl)) ?_
  refine l_append EI S13 1 rfl rfl rfl rfl ((hD.sub _ hbm).1.le S13.le) Tryz.underlying24 info3 rfl rfl rfl (by unfold maxLen; simp; omega) (by show _ * 8 ≤ _; simp; omega) ?_
  intro v19 w16 S17 hk18 hv20
  refine l_a rfl ?_
  refine l_nil ?_
  refine r_seq ?_
  refine r_seq ?_
  refine r_region ?_
  refine l_x rfl (x_fieldAddr rfl Tryz.runUnderlying26 rfl Tryz.sizeOf3 (by decide)) ?_
  refine l_x rfl (x_load rfl (ld_blk (S17.blk 0 rfl) Tryz.isAgg3 rfl)) ?_
  refine l_x rfl (x_gtr rfl rfl) ?_
  refine l_nil ?_
  refine r_ifd rfl (fun hc26 => ?_) (fun hc26 => ?_)
  ·skip
   refine r_region ?_
   refine l_m rfl ?_
   refine l_x rfl (x_fieldAddr rfl Tryz.runUnderlying26 rfl Tryz.sizeOf3 (by decide)) ?_
   refine l_x rfl (x_load rfl (ld_blk (S17.blk 0 rfl) Tryz.isAgg3 rfl)) ?_
   refine l_buildSlice EI [b.1.frm] S17 rfl Tryz.runUnderlying24 Tryz.sizeOf3 Tryz.zeroValue3 rfl ⟨rfl, rfl, trivial⟩ (Nat.le_of_ble_eq_true rfl) ?_
   intro v24 w21 S22 hl23
   refine l_append EI S22 1 rfl rfl rfl rfl (vec_rd (S22.at 2 rfl)) Tryz.underlying24 info3 rfl rfl rfl (by unfold maxLen; simp; omega) (by show _ * 8 ≤ _; simp; omega) ?_
   intro v28 w25 S26 hk27 hv29
   refine l_a rfl ?_
   refine l_nil ?_
   refine r_seq ?_
   refine r_seq ?_
   refine r_region ?_
   refine l_x rfl (x_fieldAddr rfl Tryz.runUnderlying26 rfl Tryz.sizeOf3 (by decide)) ?_
   refine l_x rfl (x_load rfl (ld_blk (S26.blk 0 rfl) Tryz.isAgg3 rfl)) ?_
   refine l_x rfl (x_gtr rfl rfl) ?_
   refine l_nil ?_
   refine r_ifd rfl (fun hc34 => ?_) (fun hc34 => ?_)
   ·skip
    refine r_region ?_
    refine l_m rfl ?_
    refine l_x rfl (x_fieldAddr rfl Tryz.runUnderlying26 rfl Tryz.sizeOf3 (by decide)) ?_
    refine l_x rfl (x_load rfl (ld_blk (S26.blk 0 rfl) Tryz.isAgg3 rfl)) ?_
    refine l_buildSlice EI [b.1.to] S26 rfl Tryz.runUnderlying24 Tryz.sizeOf3 Tryz.zeroValue3 rfl ⟨rfl, rfl, trivial⟩ (Nat.le_of_ble_eq_true rfl) ?_
    intro v33 w30 S31 hl32
    refine l_append EI S31 1 rfl rfl rfl rfl (vec_rd (S31.at 3 rfl)) Tryz.underlying24 info3 rfl rfl rfl (by unfold maxLen; simp; omega) (by show _ * 8 ≤ _; simp; omega) ?_
    intro v37 w34 S35 hk36 hv38
    refine l_a rfl ?_
    refine l_nil ?_
    refine r_seq ?_
    refine r_region ?_
    refine l_m rfl ?_
    refine l_a rfl ?_
    refine l_nil ?_
    refine r_ret (rs := [.tmp 4]) [_] Tryz.func128 rfl ⟨rfl, trivial⟩ ?_
    exact ⟨by unfold nm; rw [(show ofD (dl rs) a.1 = b.1 by unfold ofD; rw [if_pos (by omega), dl_get hb]; rfl)]; unfold nm1; rw [if_pos (by omega), if_pos (by omega)]; exact S35.new 1 rfl, S35.le⟩
   refine r_skip ?_
   refine r_seq ?_
   refine r_region ?_
   refine l_m rfl ?_
   refine l_a rfl ?_
   refine l_nil ?_
   refine r_ret (rs := [.tmp 4]) [_] Tryz.func128 rfl ⟨rfl, trivial⟩ ?_
   exact ⟨by unfold nm; rw [(show ofD (dl rs) a.1 = b.1 by unfold ofD; rw [if_pos (by omega), dl_get hb]; rfl)]; unfold nm1; rw [if_pos (by omega), if_neg (by omega)]; (try rw [List.append_nil]); (try rw [List.append_nil]); exact S26.new 1 rfl, S26.le⟩
  refine r_skip ?_
  refine r_seq ?_
  refine r_seq ?_
  refine r_region ?_
  refine l_x rfl (x_fieldAddr rfl Tryz.runUnderlying26 rfl Tryz.sizeOf3 (by decide)) ?_
  refine l_x rfl (x_load rfl (ld_blk (S17.blk 0 rfl) Tryz.isAgg3 rfl)) ?_
  refine l_x rfl (x_gtr rfl rfl) ?_
  refine l_nil ?_
  refine r_ifd rfl (fun hc34 => ?_) (fun hc34 => ?_)
  ·skip
   refine r_region ?_
   refine l_m rfl ?_
   refine l_x rfl (x_fieldAddr rfl Tryz.runUnderlying26 rfl Tryz.sizeOf3 (by decide)) ?_
   refine l_x rfl (x_load rfl (ld_blk (S17.blk 0 rfl) Tryz.isAgg3 rfl)) ?_
   refine l_buildSlice EI [b.1.to] S17 rfl Tryz.runUnderlying24 Tryz.sizeOf3 Tryz.zeroValue3 rfl ⟨rfl, rfl, trivial⟩ (Nat.le_of_ble_eq_true rfl) ?_
   intro v42 w39 S40 hl41
   refine l_append EI S40 1 rfl rfl rfl rfl (vec_rd (S40.at 2 rfl)) Tryz.underlying24 info3 rfl rfl rfl (by unfold maxLen; simp; omega) (by show _ * 8 ≤ _; simp; omega) ?_
   intro v46 w43 S44 hk45 hv47
   refine l_a rfl ?_
   refine l_nil ?_
   refine r_seq ?_
   refine r_region ?_
   refine l_m rfl ?_
   refine l_a rfl ?_
   refine l_nil ?_
   refine r_ret (rs := [.tmp 4]) [_] Tryz.func128 rfl ⟨rfl, trivial⟩ ?_
   exact ⟨by unfold nm; rw [(show ofD (dl rs) a.1 = b.1 by unfold ofD; rw [if_pos (by omega), dl_get hb]; rfl)]; unfold nm1; rw [if_neg (by omega), if_pos (by omega)]; (try rw [List.append_nil]); (try rw [List.append_nil]); exact S44.new 1 rfl, S44.le⟩
  refine r_skip ?_
  refine r_seq ?_
  refine r_region ?_
  refine l_m rfl ?_
  refine l_a rfl ?_
  refine l_nil ?_
  refine r_ret (rs := [.tmp 4]) [_] Tryz.func128 rfl ⟨rfl, trivial⟩ ?_
  exact ⟨by unfold nm; rw [(show ofD (dl rs) a.1 = b.1 by unfold ofD; rw [if_pos (by omega), dl_get hb]; rfl)]; unfold nm1; rw [if_neg (by omega), if_neg (by omega)]; (try rw [List.append_nil]); (try rw [List.append_nil]); exact S17.new 1 rfl, S17.le⟩
 refine l_x rfl (x_fieldAddr rfl Tryz.runUnderlying26 rfl Tryz.sizeOf5 (by decide)) ?_
 refine l_x rfl (x_load rfl (ld_blk (S2.blk 0 rfl) Tryz.isAgg5 rfl)) ?_
 refine l_x rfl (x_eql rfl rfl) ?_
 refine l_x rfl (x_pick_f rfl rfl) ?_
 refine l_nil ?_
 refine r_ifd rfl (fun hc13 => ?_) (fun hc13 => ?_)
 ·skip
  obtain ⟨ho1, b, hb⟩ := hof (by omega)
  have hbl := (List.getElem?_eq_some_iff.1 hb).1
  have hbm := List.mem_of_getElem? hb
  have hly := formed_lens (hfm b.1 (mem_dl hbm))
  refine r_region ?_
  refine l_m rfl ?_
  refine l_x rfl (x_fieldAddr rfl Tryz.runUnderlying26 rfl Tryz.sizeOf3 (by decide)) ?_
  refine l_x rfl (x_load rfl (ld_blk (S2.blk 0 rfl) Tryz.isAgg3 rfl)) ?_
  refine l_x rfl (x_sub rfl rfl (by omega)) ?_
  refine l_index ED rfl (hD.rd.le S2.le) rfl rfl Tryz.runUnderlying23 Tryz.sizeOf26 (by omega) hb ?_
  intro b48 o49 hat50 row51
  refine l_x rfl (x_load rfl (ld_row Tryz.isAgg26 Tryz.sizeOf26 rfl row51)) ?_
  refine l_stores (vs := [_, _, _, _, _, _, _, _, _, _, _]) S2 0 rfl rfl rfl rfl (ones_cons rfl (ones_cons rfl (ones_cons rfl (ones_cons rfl (ones_cons rfl (ones_cons rfl (ones_cons rfl (ones_cons rfl (ones_cons rfl (ones_cons (Rd.one ((hD.sub _ hbm).1.le S2.le)) (ones_cons (Rd.one ((hD.sub _ hbm).2.le S2.le)) ones_nil))))))))))) Tryz.sizeOf26 (by first | exact Nat.le_refl _ | simp) (splice_all rfl) ?_
  intro w52 S53 hk54
  refine l_nil ?_
  refine r_seq ?_
  refine r_region ?_
  refine l_buildSlice EI [] S53 rfl Tryz.runUnderlying24 Tryz.sizeOf3 Tryz.zeroValue3 rfl trivial (Nat.le_of_ble_eq_true rfl) ?_
  intro v58 w55 S56 hl57
  refine l_x rfl (x_fieldAddr rfl Tryz.runUnderlying26 rfl Tryz.sizeOf24 (by decide)) ?_
  refine l_x rfl (x_load rfl (ld_blk (S56.blk 0 rfl) Tryz.isAgg24 rfl)) ?_
  refine l_append EI S56 1 rfl rfl rfl rfl ((hD.sub _ hbm).1.le S56.le) Tryz.underlying24 info3 rfl rfl rfl (by unfold maxLen; simp; omega) (by show _ * 8 ≤ _; simp; omega) ?_
  intro v62 w59 S60 hk61 hv63
  refine l_a rfl ?_
  refine l_nil ?_
  refine r_seq ?_
  refine r_seq ?_
  refine r_region ?_
  refine l_x rfl (x_fieldAddr rfl Tryz.runUnderlying26 rfl Tryz.sizeOf3 (by decide)) ?_
  refine l_x rfl (x_load rfl (ld_blk (S60.blk 0 rfl) Tryz.isAgg3 rfl)) ?_
  refine l_x rfl (x_gtr rfl rfl) ?_
  refine l_nil ?_
  refine r_ifd rfl (fun hc26 => ?_) (fun hc26 => ?_)
  ·skip
   refine r_region ?_
   refine l_m rfl ?_
   refine l_x rfl (x_fieldAddr rfl Tryz.runUnderlying26 rfl Tryz.sizeOf3 (by decide)) ?_
   refine l_x rfl (x_load rfl (ld_blk (S60.blk 0 rfl) Tryz.isAgg3 rfl)) ?_
   refine l_buildSlice EI [b.1.frm] S60 rfl Tryz.runUnderlying24 Tryz.sizeOf3 Tryz.zeroValue3 rfl ⟨rfl, rfl, trivial⟩ (Nat.le_of_ble_eq_true rfl) ?_
   intro v67 w64 S65 hl66
   refine l_append EI S65 1 rfl rfl rfl rfl (vec_rd (S65.at 2 rfl)) Tryz.underlying24 info3 rfl rfl rfl (by unfold maxLen; simp; omega) (by show _ * 8 ≤ _; simp; omega) ?_
   intro v71 w68 S69 hk70 hv72
   refine l_a rfl ?_
   refine l_nil ?_
   refine r_seq ?_
   refine r_seq ?_
   refine r_region ?_
   refine l_x rfl (x_fieldAddr rfl Tryz.runUnderlying26 rfl Tryz.sizeOf3 (by decide)) ?_
   refine l_x rfl (x_load rfl (ld_blk (S69.blk 0 rfl) Tryz.isAgg3 rfl)) ?_
   refine l_x rfl (x_gtr rfl rfl) ?_
   refine l_nil ?_
   refine r_ifd rfl (fun hc34 => ?_) (fun hc34 => ?_)
   ·skip
    refine r_region ?_
    refine l_m rfl ?_
    refine l_x rfl (x_fieldAddr rfl Tryz.runUnderlying26 rfl Tryz.sizeOf3 (by decide)) ?_
    refine l_x rfl (x_load rfl (ld_blk (S69.blk 0 rfl) Tryz.isAgg3 rfl)) ?_
    refine l_buildSlice EI [b.1.to] S69 rfl Tryz.runUnderlying24 Tryz.sizeOf3 Tryz.zeroValue3 rfl ⟨rfl, rfl, trivial⟩ (Nat.le_of_ble_eq_true rfl) ?_
    intro v76 w73 S74 hl75
    refine l_append EI S74 1 rfl rfl rfl rfl (vec_rd (S74.at 3 rfl)) Tryz.underlying24 info3 rfl rfl rfl (by unfold maxLen; simp; omega) (by show _ * 8 ≤ _; simp; omega) ?_
    intro v80 w77 S78 hk79 hv81
    refine l_a rfl ?_
    refine l_nil ?_
    refine r_seq ?_
    refine r_region ?_
    refine l_m rfl ?_
    refine l_a rfl ?_
    refine l_nil ?_
    refine r_ret (rs := [.tmp 4]) [_] Tryz.func128 rfl ⟨rfl, trivial⟩ ?_
    exact ⟨by unfold nm; rw [(show ofD (dl rs) a.1 = b.1 by unfold ofD; rw [if_pos (by omega), dl_get hb]; rfl)]; unfold nm1; rw [if_pos (by omega), if_pos (by omega)]; exact S78.new 1 rfl, S78.le⟩
   refine r_skip ?_
   refine r_seq ?_
   refine r_region ?_
   refine l_m rfl ?_
   refine l_a rfl ?_
   refine l_nil ?_
   refine r_ret (rs := [.tmp 4]) [_] Tryz.func128 rfl ⟨rfl, trivial⟩ ?_
   exact ⟨by unfold nm; rw [(show ofD (dl rs) a.1 = b.1 by unfold ofD; rw [if_pos (by omega), dl_get hb]; rfl)]; unfold nm1; rw [if_pos (by omega), if_neg (by omega)]; (try rw [List.append_nil]); (try rw [List.append_nil]); exact S69.new 1 rfl, S69.le⟩
  refine r_skip ?_
  refine r_seq ?_
  refine r_seq ?_
  refine r_region ?_
  refine l_x rfl (x_fieldAddr rfl Tryz.runUnderlying26 rfl Tryz.sizeOf3 (by decide)) ?_
  refine l_x rfl (x_load rfl (ld_blk (S60.blk 0 rfl) Tryz.isAgg3 rfl)) ?_
  refine l_x rfl (x_gtr rfl rfl) ?_
  refine l_nil ?_
  refine r_ifd rfl (fun hc34 => ?_) (fun hc34 => ?_)
  ·skip
   refine r_region ?_
   refine l_m rfl ?_
   refine l_x rfl (x_fieldAddr rfl Tryz.runUnderlying26 rfl Tryz.sizeOf3 (by decide)) ?_
   refine l_x rfl (x_load rfl (ld_blk (S60.blk 0 rfl) Tryz.isAgg3 rfl)) ?_
   refine l_buildSlice EI [b.1.to] S60 rfl Tryz.runUnderlying24 Tryz.sizeOf3 Tryz.zeroValue3 rfl ⟨rfl, rfl, trivial⟩ (Nat.le_of_ble_eq_true rfl) ?_
   intro v85 w82 S83 hl84
   refine l_append EI S83 1 rfl rfl rfl rfl (vec_rd (S83.at 2 rfl)) Tryz.underlying24 info3 rfl rfl rfl (by unfold maxLen; simp; omega) (by show _ * 8 ≤ _; simp; omega) ?_
   intro v89 w86 S87 hk88 hv90
   refine l_a rfl ?_
   refine l_nil ?_
   refine r_seq ?_
   refine r_region ?_
   refine l_m rfl ?_
   refine l_a rfl ?_
   refine l_nil ?_
   refine r_ret (rs := [.tmp 4]) [_] Tryz.func128 rfl ⟨rfl, trivial⟩ ?_
   exact ⟨by unfold nm; rw [(show ofD (dl rs) a.1 = b.1 by unfold ofD; rw [if_pos (by omega), dl_get hb]; rfl)]; unfold nm1; rw [if_neg (by omega), if_pos (by omega)]; (try rw [List.append_nil]); (try rw [List.append_nil]); exact S87.new 1 rfl, S87.le⟩
  refine r_skip ?_
  refine r_seq ?_
  refine r_region ?_
  refine l_m rfl ?_
  refine l_a rfl ?_
  refine l_nil ?_
  refine r_ret (rs := [.tmp 4]) [_] Tryz.func128 rfl ⟨rfl, trivial⟩ ?_
  exact ⟨by unfold nm; rw [(show ofD (dl rs) a.1 = b.1 by unfold ofD; rw [if_pos (by omega), dl_get hb]; rfl)]; unfold nm1; rw [if_neg (by omega), if_neg (by omega)]; (try rw [List.append_nil]); (try rw [List.append_nil]); exact S60.new 1 rfl, S60.le⟩
 refine r_skip ?_
 refine r_seq ?_
 refine r_region ?_
 refine l_buildSlice EI [] S2 rfl Tryz.runUnderlying24 Tryz.sizeOf3 Tryz.zeroValue3 rfl trivial (Nat.le_of_ble_eq_true rfl) ?_
 intro v94 w91 S92 hl93
 refine l_x rfl (x_fieldAddr rfl Tryz.runUnderlying26 rfl Tryz.sizeOf24 (by decide)) ?_
 refine l_x rfl (x_load rfl (ld_blk (S92.blk 0 rfl) Tryz.isAgg24 rfl)) ?_
 refine l_append EI S92 1 rfl rfl rfl rfl (hA.1.le S92.le) Tryz.underlying24 info3 rfl rfl rfl (by unfold maxLen; simp; omega) (by show _ * 8 ≤ _; simp; omega) ?_
 intro v98 w95 S96 hk97 hv99
 refine l_a rfl ?_
 refine l_nil ?_
 refine r_seq ?_
 refine r_seq ?_
 refine r_region ?_
 refine l_x rfl (x_fieldAddr rfl Tryz.runUnderlying26 rfl Tryz.sizeOf3 (by decide)) ?_
 refine l_x rfl (x_load rfl (ld_blk (S96.blk 0 rfl) Tryz.isAgg3 rfl)) ?_
 refine l_x rfl (x_gtr rfl rfl) ?_
 refine l_nil ?_
 refine r_ifd rfl (fun hc26 => ?_) (fun hc26 => ?_)
 ·skip
  refine r_region ?_
  refine l_m rfl ?_
  refine l_x rfl (x_fieldAddr rfl Tryz.runUnderlying26 rfl Tryz.sizeOf3 (by decide)) ?_
  refine l_x rfl (x_load rfl (ld_blk (S96.blk 0 rfl) Tryz.isAgg3 rfl)) ?_
  refine l_buildSlice EI [a.1.frm] S96 rfl Tryz.runUnderlying24 Tryz.sizeOf3 Tryz.zeroValue3 rfl ⟨rfl, rfl, trivial⟩ (Nat.le_of_ble_eq_true rfl) ?_
  intro v103 w100 S101 hl102
  refine l_append EI S101 1 rfl rfl rfl rfl (vec_rd (S101.at 2 rfl)) Tryz.underlying24 info3 rfl rfl rfl (by unfold maxLen; simp; omega) (by show _ * 8 ≤ _; simp; omega) ?_
  intro v107 w104 S105 hk106 hv108
  refine l_a rfl ?_
  refine l_nil ?_
  refine r_seq ?_
  refine r_seq ?_
  refine r_region ?_
  refine l_x rfl (x_fieldAddr rfl Tryz.runUnderlying26 rfl Tryz.sizeOf3 (by decide)) ?_
  refine l_x rfl (x_load rfl (ld_blk (S105.blk 0 rfl) Tryz.isAgg3 rfl)) ?_
  refine l_x rfl (x_gtr rfl rfl) ?_
  refine l_nil ?_
  refine r_ifd rfl (fun hc34 => ?_) (fun hc34 => ?_)
  ·skip
   refine r_region ?_
   refine l_m rfl ?_
   refine l_x rfl (x_fieldAddr rfl Tryz.runUnderlying26 rfl Tryz.sizeOf3 (by decide)) ?_
   refine l_x rfl (x_load rfl (ld_blk (S105.blk 0 rfl) Tryz.isAgg3 rfl)) ?_
   refine l_buildSlice EI [a.1.to] S105 rfl Tryz.runUnderlying24 Tryz.sizeOf3 Tryz.zeroValue3 rfl ⟨rfl, rfl, trivial⟩ (Nat.le_of_ble_eq_true rfl) ?_
   intro v112 w109 S110 hl111
   refine l_append EI S110 1 rfl rfl rfl rfl (vec_rd (S110.at 3 rfl)) Tryz.underlying24 info3 rfl rfl rfl (by unfold maxLen; simp; omega) (by show _ * 8 ≤ _; simp; omega) ?_
   intro v116 w113 S114 hk115 hv117
   refine l_a rfl ?_
   refine l_nil ?_
   refine r_seq ?_
   refine r_region ?_
   refine l_m rfl ?_
   refine l_a rfl ?_
   refine l_nil ?_
   refine r_ret (rs := [.tmp 4]) [_] Tryz.func128 rfl ⟨rfl, trivial⟩ ?_
   exact ⟨by unfold nm; rw [(show ofD (dl rs) a.1 = a.1 by unfold ofD; rw [if_neg (by omega)])]; unfold nm1; rw [if_pos (by omega), if_pos (by omega)]; exact S114.new 1 rfl, S114.le⟩
  refine r_skip ?_
  refine r_seq ?_
  refine r_region ?_
  refine l_m rfl ?_
  refine l_a rfl ?_
  refine l_nil ?_
  refine r_ret (rs := [.tmp 4]) [_] Tryz.func128 rfl ⟨rfl, trivial⟩ ?_
  exact ⟨by unfold nm; rw [(show ofD (dl rs) a.1 = a.1 by unfold ofD; rw [if_neg (by omega)])]; unfold nm1; rw [if_pos (by omega), if_neg (by omega)]; (try rw [List.append_nil]); (try rw [List.append_nil]); exact S105.new 1 rfl, S105.le⟩
 refine r_skip ?_
 refine r_seq ?_
 refine r_seq ?_
 refine r_region ?_
 refine l_x rfl (x_fieldAddr rfl Tryz.runUnderlying26 rfl Tryz.sizeOf3 (by decide)) ?_
 refine l_x rfl (x_load rfl (ld_blk (S96.blk 0 rfl) Tryz.isAgg3 rfl)) ?_
 refine l_x rfl (x_gtr rfl rfl) ?_
 refine l_nil ?_
 refine r_ifd rfl (fun hc34 => ?_) (fun hc34 => ?_)
 ·skip
  refine r_region ?_
  refine l_m rfl ?_
  refine l_x rfl (x_fieldAddr rfl Tryz.runUnderlying26 rfl Tryz.sizeOf3 (by decide)) ?_
  refine l_x rfl (x_load rfl (ld_blk (S96.blk 0 rfl) Tryz.isAgg3 rfl)) ?_
  refine l_buildSlice EI [a.1.to] S96 rfl Tryz.runUnderlying24 Tryz.sizeOf3 Tryz.zeroValue3 rfl ⟨rfl, rfl, trivial⟩ (Nat.le_of_ble_eq_true rfl) ?_
  intro v121 w118 S119 hl120
  refine l_append EI S119 1 rfl rfl rfl rfl (vec_rd (S119.at 2 rfl)) Tryz.underlying24 info3 rfl rfl rfl (by unfold maxLen; simp; omega) (by show _ * 8 ≤ _; simp; omega) ?_
  intro v125 w122 S123 hk124 hv126
  refine l_a rfl ?_
  refine l_nil ?_
  refine r_seq ?_
  refine r_region ?_
  refine l_m rfl ?_
  refine l_a rfl ?_
  refine l_nil ?_
  refine r_ret (rs := [.tmp 4]) [_] Tryz.func128 rfl ⟨rfl, trivial⟩ ?_
  exact ⟨by unfold nm; rw [(show ofD (dl rs) a.1 = a.1 by unfold ofD; rw [if_neg (by omega)])]; unfold nm1; rw [if_neg (by omega), if_pos (by omega)]; (try rw [List.append_nil]); (try rw [List.append_nil]); exact S123.new 1 rfl, S123.le⟩
 refine r_skip ?_
 refine r_seq ?_
 refine r_region ?_
 refine l_m rfl ?_
 refine l_a rfl ?_
 refine l_nil ?_
 refine r_ret (rs := [.tmp 4]) [_] Tryz.func128 rfl ⟨rfl, trivial⟩ ?_
 exact ⟨by unfold nm; rw [(show ofD (dl rs) a.1 = a.1 by unfold ofD; rw [if_neg (by omega)])]; unfold nm1; rw [if_neg (by omega), if_neg (by omega)]; (try rw [List.append_nil]); (try rw [List.append_nil]); exact S96.new 1 rfl, S96.le⟩

theorem ixc_step {a b : List Int} {i : Nat} {x : Int} (h : ∀ y ∈ a.take i, b.contains y = false) (ha : a[i]? = some x) (hn : b.contains x = false) : ∀ y ∈ a.take (i + 1), b.contains y = false := by
 intro y hy
 rw [List.take_add_one, ha] at hy
 rcases List.mem_append.1 hy with g | g
 ·exact h y g
 simp at g; subst g; exact hn

set_option maxHeartbeats 2000000 in
theorem c_rmeet (a b : List Int) (va vb : Value) (hma : a.length ≤ 9223372036854775807) (hmb : b.length ≤ 9223372036854775807) (w : World) (hA : Rd EI w va a) (hB : Rd EI w vb b) :
  Cl Tryz.prog 129 #[va, vb] w fun v w' => v = .bool (meetB a b) ∧ Le w w' := by
 refine fn_of_run (args := [_, _]) 18 Tryz.func129 rfl rfl rfl fun cs => ?_
 have S := Own.start (X := nob) w
 refine r_seq ?_
 refine r_region ?_
 refine l_a rfl ?_
 refine l_nil ?_
 refine r_seq ?_
 refine r_seq ?_
 refine r_region ?_
 refine l_a rfl ?_
 refine l_nil ?_
 refine r_block ?_
 refine r_loop (G := Nat) (fun i => a.length - i) (fun i => [(0, va), (1, vb), (5, .int .i64 i)]) (fun i w' => (i ≤ a.length) ∧ (∀ y ∈ a.take i, b.contains y = false) ∧ Own nob w w' []) 0 ⟨rfl, rfl, rfl, trivial⟩ ⟨Nat.zero_le _, by simp, (S.take 0)⟩ ?_
 rintro i ρ w1 ⟨hi, hno, S1⟩ IH
 refine r_seq ?_
 refine r_seq ?_
 refine r_region ?_
 refine l_m rfl ?_
 refine l_m rfl ?_
 refine l_x rfl (x_len (hA.le S1.le) rfl Tryz.runUnderlying24) ?_
 refine l_x rfl (x_lss rfl rfl) ?_
 refine l_nil ?_
 refine r_ifd rfl (fun hc9 => ?_) (fun hc9 => ?_)
 ·skip
  obtain ⟨a0, ha⟩ : ∃ x, a[i]? = some x := ⟨_, List.getElem?_eq_getElem (by omega)⟩
  refine r_skip ?_
  refine r_seq ?_
  refine r_block ?_
  refine r_seq ?_
  refine r_region ?_
  refine l_m rfl ?_
  refine l_m rfl ?_
  refine l_m rfl ?_
  refine l_index EI rfl (hA.le S1.le) rfl rfl Tryz.runUnderlying24 Tryz.sizeOf3 (by omega) ha ?_
  intro b1 o2 hat3 row4
  refine l_x rfl (x_load rfl (ld_cell Tryz.isAgg3 (row4 0 _ rfl))) ?_
  refine l_call [] [] [_, _] rfl rfl Tryz.call84 rfl (c_rhas b vb a0 (by omega) _ (hB.le S1.le)) ?_
  rintro _ w5 ⟨rfl, hl7⟩
  have S6 := S1.step hl7
  refine l_nil ?_
  refine r_if rfl (fun hc17 => ?_) (fun hc17 => ?_)
  ·skip
   refine r_seq ?_
   refine r_region ?_
   refine l_a rfl ?_
   refine l_nil ?_
   refine r_ret (rs := [.tmp 4]) [_] Tryz.func129 rfl ⟨rfl, trivial⟩ ?_
   exact ⟨congrArg Value.bool (List.any_eq_true.2 ⟨a0, List.mem_of_getElem? ha, by simpa using hc17⟩).symm, S6.le⟩
  refine r_skip ?_
  refine r_inBlock ?_
  refine r_region ?_
  refine l_m rfl ?_
  refine l_x rfl (x_add rfl rfl (by omega)) ?_
  refine l_a rfl ?_
  refine l_nil ?_
  exact IH (i + 1) _ _ (by omega) ⟨rfl, rfl, rfl, trivial⟩ ⟨by omega, ixc_step hno ha (by simpa using hc17), (S6.take 0)⟩
 obtain rfl : i = a.length := by omega
 rw [List.take_length] at hno
 refine r_exit rfl ?_
 refine r_seq ?_
 refine r_region ?_
 refine l_a rfl ?_
 refine l_nil ?_
 refine r_ret (rs := [.tmp 4]) [_] Tryz.func129 rfl ⟨rfl, trivial⟩ ?_
 exact ⟨congrArg Value.bool (List.any_eq_false.2 fun y hy => by rw [hno y hy]; simp).symm, S1.le⟩

theorem dl_filter9 {rq : List Rw} {is : List Int} : dl (rq.filter fun a : Rw => is.contains a.1.id) = (dl rq).filter fun x => is.contains x.id := by
 rw [dl, dl, List.filter_map]; rfl
theorem filt_mem9 {rq rs : List Rw} {p : Rw → Bool} (h : ∀ b ∈ rq, b ∈ rs) : ∀ b ∈ rq.filter p, b ∈ rs := fun b hb => h b (List.mem_filter.1 hb).1

theorem only_fin {l c : List D} {known day : Int} {is : List Int} (h : c = if rightD l = true then counting l known else []) : onlyD l known day is = accs (doneD (c.filter fun x => is.contains x.id) day) day := by
 subst h
 unfold onlyD
 split
 ·rfl
 rfl

set_option maxHeartbeats 4000000 in
theorem c_rOnly (rs : List Rw) (vl : Value) (known : Int) (day : Int) (is : List Int) (vi : Value) (hmi : is.length ≤ 9223372036854775807) (w : World) (hD : DsR 26 3 w vl rs) (hL : Rd EI w vi is) :
  Cl Tryz.prog 77 #[vl, .int .i64 known, .int .i64 day, vi] w fun v w' => New w w' (vec EAC v (onlyD (dl rs) known day is)) ∧ Le w w' := by
 refine fn_of_run (args := [_, _, _, _]) 38 Tryz.func77 rfl rfl rfl fun cs => ?_
 have S := Own.start (X := nob) w
 refine r_seq ?_
 refine r_region ?_
 refine l_a rfl ?_
 refine l_nil ?_
 refine r_seq ?_
 refine r_region ?_
 refine l_m rfl ?_
 refine l_m rfl ?_
 refine l_call [] [] [_, _] rfl rfl Tryz.call50 rfl (c_rCounting rs vl known _ (hD.le S.le)) ?_
 rintro v141 w1 ⟨rq141, hq141, hm141, hN141, hl141⟩
 have S2 := S.add hl141 hN141
 obtain ⟨rq, hrqe⟩ : ∃ q, q = rq141 := ⟨_, rfl⟩
 subst hrqe
 have hqq := hq141
 have hqm := hm141
 have hlq := ctg_len hqq
 obtain ⟨hqp, hqs⟩ := ctg_play hqq
 refine l_a rfl ?_
 refine l_nil ?_
 refine r_seq ?_
 refine r_region ?_
 refine l_a rfl ?_
 have S3 := S2.nilvec (E := ED)
 refine l_nil ?_
 refine r_seq ?_
 refine r_seq ?_
 refine r_region ?_
 refine l_a rfl ?_
 refine l_nil ?_
 refine r_block ?_
 refine r_loop (G := Nat × Value) (fun ⟨i, vo⟩ => rq.length - i) (fun ⟨i, vo⟩ => [(2, .int .i64 day), (3, vi), (9, v141), (10, vo), (11, .int .i64 i)]) (fun ⟨i, vo⟩ w' => (i ≤ rq.length) ∧ Own nob w w' [vec ED v141 rq, vec ED vo ((rq.take i).filter fun a : Rw => is.contains a.1.id)]) (0, .slice none 0 0) ⟨rfl, rfl, rfl, rfl, rfl, trivial⟩ ⟨Nat.zero_le _, (S3.take 2)⟩ ?_
 rintro ⟨i, vo⟩ ρ w1 ⟨hi, S1⟩ IH
 refine r_seq ?_
 refine r_seq ?_
 refine r_region ?_
 refine l_m rfl ?_
 refine l_m rfl ?_
 refine l_x rfl (x_len (vec_rd (S1.at 0 rfl)) rfl Tryz.runUnderlying23) ?_
 refine l_x rfl (x_lss rfl rfl) ?_
 refine l_nil ?_
 refine r_ifd rfl (fun hc18 => ?_) (fun hc18 => ?_)
 ·skip
  obtain ⟨a, ha⟩ : ∃ x, rq[i]? = some x := ⟨_, List.getElem?_eq_getElem (by omega)⟩
  have ham := List.mem_of_getElem? ha
  refine r_skip ?_
  refine r_seq ?_
  refine r_block ?_
  refine r_seq ?_
  refine r_region ?_
  refine l_m rfl ?_
  refine l_m rfl ?_
  refine l_m rfl ?_
  refine l_index ED rfl (vec_rd (S1.at 0 rfl)) rfl rfl Tryz.runUnderlying23 Tryz.sizeOf26 (by omega) ha ?_
  intro b4 o5 hat6 row7
  refine l_x rfl (x_fieldAddr rfl Tryz.runUnderlying26 rfl Tryz.sizeOf3 (by decide)) ?_
  refine l_x rfl (x_load rfl (ld_cell Tryz.isAgg3 (row7 0 _ rfl))) ?_
  refine l_call [] [] [_, _] rfl rfl Tryz.call84 rfl (c_rhas is vi a.1.id (by omega) _ (hL.le S1.le)) ?_
  rintro _ w8 ⟨rfl, hl10⟩
  have S9 := S1.step hl10
  refine l_nil ?_
  refine r_if rfl (fun hc27 => ?_) (fun hc27 => ?_)
  ·skip
   refine r_region ?_
   refine l_m rfl ?_
   refine l_m rfl ?_
   refine l_m rfl ?_
   refine l_index ED rfl (vec_rd (S9.at 0 rfl)) rfl rfl Tryz.runUnderlying23 Tryz.sizeOf26 (by omega) ha ?_
   intro b11 o12 hat13 row14
   refine l_x rfl (x_load rfl (ld_row Tryz.isAgg26 Tryz.sizeOf26 rfl row14)) ?_
   refine l_buildSlice ED [a] S9 rfl Tryz.runUnderlying23 Tryz.sizeOf26 Tryz.zeroValue26 rfl ⟨rfl, rfl, trivial⟩ (Nat.le_of_ble_eq_true rfl) ?_
   intro v18 w15 S16 hl17
   refine l_append ED S16 1 rfl rfl rfl rfl (vec_rd (S16.at 2 rfl)) Tryz.underlying23 info26 rfl rfl rfl (by have := List.length_filter_le (fun a : Rw => is.contains a.1.id) (rq.take i); rw [List.length_take] at this; unfold maxLen; rw [List.length_singleton]; omega) (by have := List.length_filter_le (fun a : Rw => is.contains a.1.id) (rq.take i); rw [List.length_take] at this; rw [List.length_singleton]; show _ * 120 ≤ _; omega) ?_
   intro v22 w19 S20 hk21 hv23
   refine l_a rfl ?_
   refine l_nil ?_
   refine r_inBlock ?_
   refine r_region ?_
   refine l_m rfl ?_
   refine l_x rfl (x_add rfl rfl (by omega)) ?_
   refine l_a rfl ?_
   refine l_nil ?_
   exact IH (i + 1, v22) _ _ (by dsimp only; omega) ⟨rfl, rfl, rfl, rfl, rfl, trivial⟩ ⟨by omega, (by rw [filter_step ha, if_pos (by simpa using hc27)]; exact S20.take 2)⟩
  refine r_skip ?_
  refine r_inBlock ?_
  refine r_region ?_
  refine l_m rfl ?_
  refine l_x rfl (x_add rfl rfl (by omega)) ?_
  refine l_a rfl ?_
  refine l_nil ?_
  exact IH (i + 1, vo) _ _ (by dsimp only; omega) ⟨rfl, rfl, rfl, rfl, rfl, trivial⟩ ⟨by omega, (by rw [filter_step ha, if_neg (by simpa using hc27)]; rw [List.append_nil]; exact S9.take 2)⟩
 obtain rfl : i = rq.length := by omega
 refine r_exit rfl ?_
 refine r_seq ?_
 refine r_region ?_
 refine l_m rfl ?_
 refine l_m rfl ?_
 refine l_call [] [] [_, _] rfl rfl Tryz.call119 rfl (c_raccounts ((rq.take rq.length).filter fun a : Rw => is.contains a.1.id) _ day (by rw [List.take_length, dl_filter9]; exact hqp.filter _) (by rw [List.take_length, dl_filter9]; exact hqs.filter _) _ (hD.mem (S1).le (vec_rd ((S1).at 1 rfl)) (filt_mem9 (by rw [List.take_length]; exact hqm)) (Nat.le_trans (List.length_filter_le _ _) (by rw [List.take_length]; omega)))) ?_
 rintro v3724 w24 ⟨hN3724, hl3724⟩
 have S25 := S1.add hl3724 hN3724
 refine l_a rfl ?_
 refine l_nil ?_
 refine r_ret (rs := [.tmp 8]) [_] Tryz.func77 rfl ⟨rfl, trivial⟩ ?_
 exact ⟨by have hN := S25.new 2 rfl; rw [List.take_length, dl_filter9] at hN; rw [only_fin hqq]; exact hN, S25.le⟩

end Go.Proofs

namespace Go.Proofs
open Go Go.Vk Go.Vk.Flow

open Go.Vk.Deed
abbrev movP (l : List D) (known o : Int) (x : D) : Bool := (nm l x).contains o && !(idleD l known).contains x.id
abbrev outM (l : List D) (known o : Int) (t : List Rw) : List Int := (t.filter fun a => movP l known o a.1).map (·.1.id)
theorem outM_snoc {l : List D} {known o : Int} {t : List Rw} {a : Rw} : outM l known o (t ++ [a]) = outM l known o t ++ if movP l known o a.1 = true then [a.1.id] else [] := by
 unfold outM
 rw [List.filter_append, List.map_append, List.filter_cons]
 split <;> simp
theorem mov_dl {l : List D} {known day o : Int} {rq : List Rw} : outM l known o (untl day rq) = ((dl rq).filter fun x => decide (x.day ≤ day) && (nm l x).contains o && !(idleD l known).contains x.id).map (·.id) := by
 unfold outM untl dl
 rw [List.filter_filter, List.filter_map, List.map_map]
 congr 1
 congr 1
 funext a
 simp only [Function.comp, movP]
 rw [Bool.and_comm, Bool.and_assoc]
theorem outM_len {l : List D} {known o : Int} {t : List Rw} : (outM l known o t).length ≤ t.length := by
 rw [List.length_map]; exact List.length_filter_le _ _

set_option maxHeartbeats 4000000 in
theorem c_Moves (rs : List Rw) (vl : Value) (known : Int) (day o : Int) (w : World) (hD : DsR 26 3 w vl rs) :
  Cl Tryz.prog 75 #[vl, .int .i64 known, .int .i64 day, .int .i64 o] w fun v w' => New w w' (vec EI v (movesD (dl rs) known day o)) ∧ Le w w' := by
 refine fn_of_run (args := [_, _, _, _]) 43 Tryz.func75 rfl rfl rfl fun cs => ?_
 have S := Own.start (X := nob) w
 refine r_seq ?_
 refine r_region ?_
 refine l_box S rfl (Rd.cells (hD.rd.le S.le)) ?_
 intro b4 w1 S2 hl3
 refine l_box S2 rfl rfl ?_
 intro b8 w5 S6 hl7
 refine l_a rfl ?_
 refine l_nil ?_
 refine r_seq ?_
 refine r_seq ?_
 refine r_region ?_
 refine l_x rfl (x_load rfl (ld_blk (S6.blk 0 rfl) Tryz.isAgg23 rfl)) ?_
 refine l_call [] [] [_] rfl rfl Tryz.call104 rfl (c_right rs _ _ (hD.le S6.le)) ?_
 rintro _ w9 ⟨rfl, hl11⟩
 have S10 := S6.step hl11
 refine l_x rfl (x_not rfl) ?_
 refine l_nil ?_
 refine r_if rfl (fun hc14 => ?_) (fun hc14 => ?_)
 ·skip
  have hR : rightD (dl rs) = false := by simpa using hc14
  refine r_seq ?_
  refine r_region ?_
  refine l_a rfl ?_
  refine l_nil ?_
  refine r_ret (rs := [.tmp 8]) [_] Tryz.func75 rfl ⟨rfl, trivial⟩ ?_
  exact ⟨by rw [movesD, if_neg (by simp [hR])]; exact New.nilvec .., S10.le⟩
 have hR : rightD (dl rs) = true := by simpa using hc14
 have hil := idle_len (dl rs) known
 refine r_skip ?_
 refine r_seq ?_
 refine r_region ?_
 refine l_x rfl (x_load rfl (ld_blk (S10.blk 0 rfl) Tryz.isAgg23 rfl)) ?_
 refine l_m rfl ?_
 refine l_call [] [] [_, _] rfl rfl Tryz.call51 rfl (c_Idle rs vl known _ (hD.le S10.le)) ?_
 rintro v1712 w12 ⟨hN1712, hl1712⟩
 have S13 := S10.add hl1712 hN1712
 refine l_alloc S13 rfl Tryz.zeroValue24 rfl ?_
 intro b17 w14 S15 hl16
 refine l_storeq (c' := [_]) (v := v1712) S15 3 rfl rfl rfl rfl (Rd.one (vec_rd (S15.at 2 rfl))) Tryz.sizeOf24 (by first | (simp; done) | exact Nat.le_of_ble_eq_true rfl) rfl ?_
 intro w18 S19 hk20
 refine l_nil ?_
 refine r_seq ?_
 refine r_region ?_
 refine l_alloc S19 rfl Tryz.zeroValue24 rfl ?_
 intro b24 w21 S22 hl23
 refine l_nil ?_
 refine r_seq ?_
 refine r_seq ?_
 refine r_region ?_
 refine l_x rfl (x_load rfl (ld_blk (S22.blk 0 rfl) Tryz.isAgg23 rfl)) ?_
 refine l_m rfl ?_
 refine l_call [] [] [_, _] rfl rfl Tryz.call106 rfl (c_counting rs _ known (right_asc hR) (by have := right_len hR; rw [dl_len] at this; exact this) _ (hD.le S22.le)) ?_
 rintro v2025 w25 ⟨rq2025, hq2025, hm2025, hN2025, hl2025⟩
 have S26 := S22.add hl2025 hN2025
 obtain ⟨rq, hrqe⟩ : ∃ q, q = rq2025 := ⟨_, rfl⟩
 subst hrqe
 have hqq := hq2025
 have hmq := hm2025
 have hlq : rq.length ≤ 400 := by rw [← dl_len, hq2025]; exact count_len hR
 refine l_m rfl ?_
 refine l_call [] [] [_, _] rfl rfl Tryz.call130 rfl (c_until _ _ day _ (hD.mem S26.le (vec_rd (S26.at 5 rfl)) hmq (by omega))) ?_
 rintro _ w27 ⟨b30, b31, rfl, h29⟩
 have S28 := S26.join h29
 have Sn := Own.nilvec (E := EI) S28
 have S32 := Sn.pick (L' := [_, _, _, _, _, _, _, _, _]) [6, 7, 5, 0, 1, 2, 3, 4, 8] (by decide) rfl
 refine l_nil ?_
 refine r_block ?_
 refine r_rangeFunc [] [_, _] S32 rfl rfl Tryz.call167 ?_
 intro D33 l34 w35 S36 hl37
 have S38 : Own _ _ _ [_, _, _, _, _, _, _, _, _, _, _] := S36.pick [0, 1, 2, 3, 4, 5, 6, 7, 8, 9, 10] (by decide) rfl
 have S39 := Own.pack (A := [_, _, _]) (L := [_, _, _, _, _, _, _, _]) S38
 refine (c_until1L _ _ day _ _ _ _ _ (fun wz hk => ⟨vec_rd (S39.beside 3 2 rfl rfl (by decide) hk), fun a ha => (hD.sub a (hmq a ha)).le (hk.old S39.le (fun c hc => ((S39).bd 3 _ rfl c hc).2.resolve_right id)), by omega⟩) (fun wz hk => S39.beside 3 0 rfl rfl (by decide) hk) (fun wz hk => S39.beside 3 1 rfl rfl (by decide) hk) (fun t r => (∃ v0, r = pack [_, _, _, _, blk b24 [v0] 24, vec EI v0 (outM (dl rs) known o t), _, _]) ∧ ∀ c, r.fp c → w.heap.size ≤ c) ?_ _ ⟨⟨_, rfl⟩, (fun c hc => ((S39).bd 3 _ rfl c hc).2.resolve_right id)⟩ _ (S39.lend 3 rfl)).mono ?_
 ·skip
  rintro t _ a w1 ⟨⟨v0, rfl⟩, hfp⟩ ⟨s, hin⟩ hK hS
  have S40 := hS.open
  have hamq : a ∈ _ := untl_mem (day := day) (by rw [hin]; exact List.mem_append_right _ (List.mem_cons_self ..))
  have ham := hmq a hamq
  have hnl := nm_len (fun y hy => right_formed hR hy) (right_formed hR (mem_dl ham))
  have hle : Le w w1 := hK.old S39.le (fun c hc => (S39.bd 3 _ rfl c hc).2.resolve_right id)
  have htl : t.length ≤ 400 := by have h9 := congrArg List.length hin; have h8 := List.length_filter_le (fun a : Rw => decide (a.1.day ≤ day)) rq; unfold untl at h9; rw [List.length_append, List.length_cons] at h9; omega
  refine yl_of_run (S40.obj 7 rfl) rfl (fun c cs => ?_)
  refine r_region ?_
  refine l_alloc S40 rfl Tryz.zeroValue26 rfl ?_
  intro b44 w41 S42 hl43
  refine l_stores (vs := [_, _, _, _, _, _, _, _, _, _, _]) S42 8 rfl rfl rfl rfl (ones_cons rfl (ones_cons rfl (ones_cons rfl (ones_cons rfl (ones_cons rfl (ones_cons rfl (ones_cons rfl (ones_cons rfl (ones_cons rfl (ones_cons (Rd.one ((hD.sub a ham).1.le (S42.old hle hfp))) (ones_cons (Rd.one ((hD.sub a ham).2.le (S42.old hle hfp))) ones_nil))))))))))) Tryz.sizeOf26 (by first | exact Nat.le_refl _ | simp) (splice_all rfl) ?_
  intro w45 S46 hk47
  refine l_nil ?_
  refine r_beginRound S46 7 rfl rfl ?_
  intro w48 S49 hk50
  refine r_block ?_
  refine r_seq ?_
  refine r_drawE 12 nob Tryz.mixed (by kernel_rfl) ?_
  intro w51 hl52
  have S53 := S49.step hl52
  refine e_exact 0 _ (by kernel_rfl) rfl rfl (by kernel_rfl) rfl (ex_x rfl (fun w1 h1 => x_load rfl (ld_blk ((S53.step h1).blk 0 rfl) Tryz.isAgg23 rfl))) ?_
  refine e_exact 1 _ (by kernel_rfl) rfl rfl (by kernel_rfl) rfl (ex_x rfl (fun w1 h1 => x_load rfl (ld_blks ((S53.step h1).blk 8 rfl) Tryz.isAgg26 Tryz.sizeOf26 rfl rfl))) ?_
  refine e_exact 3 _ (by kernel_rfl) rfl rfl (by kernel_rfl) rfl (ex_x rfl (fun w1 h1 => x_load rfl (ld_blk ((S53.step h1).blk 1 rfl) Tryz.isAgg3 rfl))) ?_
  refine e_next [2] (by kernel_rfl) (by kernel_rfl) ⟨⟨_, _, rfl, rfl, ?_⟩, trivial⟩
  refine s_callf [] [] [_, _] rfl rfl Tryz.call109 rfl ((c_names rs vl a (fun y hy => right_formed hR hy) (right_formed hR (mem_dl ham)) (fun k => by have h9 := right_of hR (mem_dl ham) k; rw [dl_len] at h9; exact ⟨h9.1, _, List.getElem?_eq_getElem (by omega)⟩) _ (hD.le (S53.old hle hfp)) ((hD.sub a ham).le (S53.old hle hfp))).mono ?_)
  rintro v2654 w54 ⟨hN2654, hl2654⟩
  have S55 := S53.add hl2654 hN2654
  refine ⟨.of_le hl2654, ?_⟩
  refine e_next [4] (by kernel_rfl) (by kernel_rfl) ⟨⟨_, _, rfl, rfl, ?_⟩, trivial⟩
  refine s_callf [] [] [_, _] rfl rfl Tryz.call83 rfl ((c_Contains _ _ _ (by omega) _ (vec_rd (S55.at 9 rfl))).mono ?_)
  rintro _ w56 ⟨rfl, hl58⟩
  have S57 := S55.step hl58
  refine ⟨.of_le hl58, ?_⟩
  refine e_exact 5 _ (by kernel_rfl) rfl rfl (by kernel_rfl) rfl (ex_x rfl (fun w1 h1 => x_mv rfl)) ?_
  refine e_split (d := 29) rfl (fun hg29 => ?_) (fun hg29 => ?_)
  ·skip
   refine e_exact 6 _ (by kernel_rfl) rfl rfl (by kernel_rfl) rfl (ex_x rfl (fun w1 h1 => x_load rfl (ld_blk ((S57.step h1).blk 3 rfl) Tryz.isAgg24 rfl))) ?_
   refine e_exact 7 _ (by kernel_rfl) rfl rfl (by kernel_rfl) rfl (ex_x rfl (fun w1 h1 => x_fieldAddr rfl Tryz.runUnderlying26 rfl Tryz.sizeOf3 (by decide))) ?_
   refine e_exact 8 _ (by kernel_rfl) rfl rfl (by kernel_rfl) rfl (ex_x rfl (fun w1 h1 => x_load rfl (ld_blk ((S57.step h1).blk 8 rfl) Tryz.isAgg3 rfl))) ?_
   refine e_next [9] (by kernel_rfl) (by kernel_rfl) ⟨⟨_, _, rfl, rfl, ?_⟩, trivial⟩
   refine s_callf [] [] [_, _] rfl rfl Tryz.call83 rfl ((c_Contains _ _ _ (by omega) _ (vec_rd (S57.at 2 rfl))).mono ?_)
   rintro _ w59 ⟨rfl, hl61⟩
   have S60 := S57.step hl61
   refine ⟨.of_le hl61, ?_⟩
   refine e_exact 10 _ (by kernel_rfl) rfl rfl (by kernel_rfl) rfl (ex_x rfl (fun w1 h1 => x_not rfl)) ?_
   refine e_exact 11 _ (by kernel_rfl) rfl rfl (by kernel_rfl) rfl (ex_x rfl (fun w1 h1 => x_pick_t rfl rfl)) ?_
   refine e_done (by kernel_rfl) ?_
   refine l_nil ?_
   refine r_if rfl (fun hc35 => ?_) (fun hc35 => ?_)
   ·skip
    refine r_region ?_
    refine l_x rfl (x_load rfl (ld_blk (S60.blk 4 rfl) Tryz.isAgg24 rfl)) ?_
    refine l_x rfl (x_fieldAddr rfl Tryz.runUnderlying26 rfl Tryz.sizeOf3 (by decide)) ?_
    refine l_x rfl (x_load rfl (ld_blk (S60.blk 8 rfl) Tryz.isAgg3 rfl)) ?_
    refine l_buildSlice EI [a.1.id] S60 rfl Tryz.runUnderlying24 Tryz.sizeOf3 Tryz.zeroValue3 rfl ⟨rfl, rfl, trivial⟩ (Nat.le_of_ble_eq_true rfl) ?_
    intro v65 w62 S63 hl64
    refine l_append EI S63 5 rfl rfl rfl rfl (vec_rd (S63.at 10 rfl)) Tryz.underlying24 info3 rfl rfl rfl (by have := outM_len (l := dl rs) (known := known) (o := o) (t := t); unfold maxLen; rw [List.length_singleton]; omega) (by have := outM_len (l := dl rs) (known := known) (o := o) (t := t); rw [List.length_singleton]; show _ * 8 ≤ _; omega) ?_
    intro v69 w66 S67 hk68 hv70
    refine l_storeq (c' := [_]) (v := v69) S67 4 rfl rfl rfl rfl (Rd.one (vec_rd (S67.at 5 rfl))) Tryz.sizeOf24 (by first | (simp; done) | exact Nat.le_of_ble_eq_true rfl) rfl ?_
    intro w71 S72 hk73
    refine l_nil ?_
    refine r_inBlock ?_
    refine r_roundEnd S72 7 rfl ?_
    intro w74 S75
    have hmv : outM (dl rs) known o (t ++ [a]) = outM (dl rs) known o t ++ [a.1.id] := by rw [outM_snoc, if_pos (by simp_all [movP])]
    have hC := (S75.take 8).close
    exact ⟨_, rfl, ⟨⟨_, by rw [hmv]; rfl⟩, fun c hc => (hC.bd 0 _ rfl c hc).2.elim (fun h => Nat.le_trans hle.size h) (hfp c)⟩, hC⟩
   refine r_skip ?_
   refine r_inBlock ?_
   refine r_roundEnd S60 7 rfl ?_
   intro w76 S77
   have hmv : outM (dl rs) known o (t ++ [a]) = outM (dl rs) known o t := by rw [outM_snoc, if_neg (by simp_all [movP])]; exact List.append_nil _
   have hC := (S77.take 8).close
   exact ⟨_, rfl, ⟨⟨_, by rw [hmv]; rfl⟩, fun c hc => (hC.bd 0 _ rfl c hc).2.elim (fun h => Nat.le_trans hle.size h) (hfp c)⟩, hC⟩
  refine e_exact 6 _ (by kernel_rfl) rfl rfl (by kernel_rfl) rfl (ex_pass rfl) ?_
  refine e_exact 7 _ (by kernel_rfl) rfl rfl (by kernel_rfl) rfl (ex_pass rfl) ?_
  refine e_exact 8 _ (by kernel_rfl) rfl rfl (by kernel_rfl) rfl (ex_pass rfl) ?_
  refine e_exact 9 _ (by kernel_rfl) rfl rfl (by kernel_rfl) rfl (ex_pass rfl) ?_
  refine e_exact 10 _ (by kernel_rfl) rfl rfl (by kernel_rfl) rfl (ex_pass rfl) ?_
  refine e_exact 11 _ (by kernel_rfl) rfl rfl (by kernel_rfl) rfl (ex_x rfl (fun w1 h1 => x_pick_f rfl rfl)) ?_
  refine e_done (by kernel_rfl) ?_
  refine l_nil ?_
  refine r_false rfl ?_
  refine r_skip ?_
  refine r_inBlock ?_
  refine r_roundEnd S57 7 rfl ?_
  intro w78 S79
  have hmv : outM (dl rs) known o (t ++ [a]) = outM (dl rs) known o t := by rw [outM_snoc, if_neg (by simp_all [movP])]; exact List.append_nil _
  have hC := (S79.take 8).close
  exact ⟨_, rfl, ⟨⟨_, by rw [hmv]; rfl⟩, fun c hc => (hC.bd 0 _ rfl c hc).2.elim (fun h => Nat.le_trans hle.size h) (hfp c)⟩, hC⟩
 rintro _ w80 ⟨_, ⟨⟨v9, rfl⟩, _⟩, hback81⟩
 have S82 := Own.unpack (A := [_, _, _]) (L := [_, _, _, _, _, _, _, _]) (S39.back 3 rfl hback81)
 refine r_endRange S82 10 rfl rfl ?_
 intro w83 S84 hk85
 refine r_inBlock ?_
 refine r_seq ?_
 refine r_region ?_
 refine l_x rfl (x_load rfl (ld_blk (S84.blk 7 rfl) Tryz.isAgg24 rfl)) ?_
 refine l_call [] [] [_, _] rfl rfl Tryz.call110 rfl (c_sortedInt _ _ (by have := outM_len (l := dl rs) (known := known) (o := o) (t := untl day rq); have := List.length_filter_le (fun a : Rw => decide (a.1.day ≤ day)) rq; unfold untl at *; omega) _ (vec_rd (S84.at 8 rfl))) ?_
 rintro v4286 w86 ⟨l4286, hp4286, hs4286, hN4286, hl4286⟩
 have S87 := S84.add hl4286 hN4286
 refine l_a rfl ?_
 refine l_nil ?_
 refine r_retL rfl ?_
 refine leave_mark S87 9 rfl ?_
 intro w88 S89 hk90
 refine leave_done (rs := [.tmp 8]) [_] Tryz.func75 rfl ⟨rfl, trivial⟩ ?_
 obtain rfl : l4286 = movesD (dl rs) known day o := by rw [movesD, if_pos hR, ← hqq, ← mov_dl]; exact asc_of hp4286 hs4286
 exact ⟨S89.new 11 rfl, S89.le⟩

end Go.Proofs

namespace Go.Proofs
open Go Go.Vk Go.Vk.Flow

open Go.Vk.Deed
theorem fr_own {x : D} (h : formed x = true) : (0 < x.frm → own x.frm = true) ∧ (0 < x.to → own x.to = true) ∧ ∀ y ∈ x.heirs, own y = true := by
 rw [formed_ref, Bool.and_eq_true] at h
 have h6 := h.2
 unfold fR6 fR5 fR4 fR3 fR2 fR1 at h6
 simp only [Bool.and_eq_true] at h6
 obtain ⟨⟨⟨⟨⟨h1, h2⟩, h3⟩, h4⟩, h5⟩, h7⟩ := h6
 refine ⟨fun hp => ?_, fun hp => ?_, fun y hy => ?_⟩
 ·split at h1
  ·exact h1
  rw [decide_eq_true_iff] at h1; omega
 ·split at h2
  ·rw [Bool.and_eq_true] at h2; exact h2.1
  rw [decide_eq_true_iff] at h2; omega
 split at h4
 ·obtain ⟨j, hj⟩ := List.getElem?_of_mem hy
  exact ((heirsR_at h4 (List.getElem?_eq_some_iff.1 hj).1).ok y hj).1
 rw [decide_eq_true_iff] at h4
 rw [List.length_eq_zero_iff.1 h4.1] at hy; cases hy
theorem nm_own9 {l : List D} {x : D} (hf : ∀ y ∈ l, formed y = true) (hx : formed x = true) {o : Int} (ho : own o = false) : (nm l x).contains o = false := by
 have hy : formed (ofD l x) = true := by
  unfold ofD
  split
  ·cases hg : l[(x.of - 1).toNat]? with
   | none => exact hx
   | some y => exact hf y (List.mem_of_getElem? hg)
  exact hx
 obtain ⟨h1, h2, h3⟩ := fr_own hy
 cases hc : (nm l x).contains o with
 | false => rfl
 | true =>
  have hm := List.contains_iff_mem.1 hc
  unfold nm nm1 at hm
  rcases List.mem_append.1 hm with hm | hm
  ·rcases List.mem_append.1 hm with hm | hm
   ·rw [h3 o hm] at ho; cases ho
   split at hm
   ·next g => simp at hm; rw [hm, h1 g] at ho; cases ho
   cases hm
  split at hm
  ·next g => simp at hm; rw [hm, h2 g] at ho; cases ho
  cases hm
theorem ctg_right {rs rq : List Rw} {known : Int} {i : Nat} {a : Rw} (hq : dl rq = if rightD (dl rs) = true then counting (dl rs) known else []) (ha : rq[i]? = some a) : rightD (dl rs) = true := by
 cases h : rightD (dl rs) with
 | true => rfl
 | false => rw [h, if_neg (by simp)] at hq; have := dl_get ha; rw [hq] at this; simp at this
theorem mov_fin {l c : List D} {known day o : Int} (h : c = if rightD l = true then counting l known else []) : movesD l known day o = Go.Vk.Deed.asc ((c.filter fun x => decide (x.day ≤ day) && (nm l x).contains o && !(idleD l known).contains x.id).map (·.id)) := by
 subst h
 unfold movesD
 split
 ·rfl
 exact (asc_eq (.refl _) .nil).symm

set_option maxHeartbeats 4000000 in
theorem c_rMoves (rs : List Rw) (vl : Value) (known : Int) (day o : Int) (w : World) (hD : DsR 26 3 w vl rs) :
  Cl Tryz.prog 76 #[vl, .int .i64 known, .int .i64 day, .int .i64 o] w fun v w' => New w w' (vec EI v (movesD (dl rs) known day o)) ∧ Le w w' := by
 refine fn_of_run (args := [_, _, _, _]) 66 Tryz.func76 rfl rfl rfl fun cs => ?_
 have S := Own.start (X := nob) w
 refine r_seq ?_
 refine r_region ?_
 refine l_a rfl ?_
 refine l_nil ?_
 refine r_seq ?_
 refine r_region ?_
 refine l_m rfl ?_
 refine l_m rfl ?_
 refine l_call [] [] [_, _] rfl rfl Tryz.call50 rfl (c_rCounting rs vl known _ (hD.le S.le)) ?_
 rintro v151 w1 ⟨rq151, hq151, hm151, hN151, hl151⟩
 have S2 := S.add hl151 hN151
 obtain ⟨rq, hrqe⟩ : ∃ q, q = rq151 := ⟨_, rfl⟩
 subst hrqe
 have hqq := hq151
 have hqm := hm151
 have hlq := ctg_len hqq
 obtain ⟨hqp, hqs⟩ := ctg_play hqq
 refine l_a rfl ?_
 refine l_nil ?_
 refine r_seq ?_
 refine r_region ?_
 refine l_m rfl ?_
 refine l_m rfl ?_
 refine l_call [] [] [_, _] rfl rfl Tryz.call52 rfl (c_rIdle rs vl known _ (hD.le S2.le)) ?_
 rintro v183 w3 ⟨hN183, hl183⟩
 have S4 := S2.add hl183 hN183
 refine l_a rfl ?_
 refine l_nil ?_
 refine r_seq ?_
 refine r_region ?_
 refine l_a rfl ?_
 have S5 := S4.nilvec (E := EI)
 refine l_nil ?_
 refine r_seq ?_
 refine r_seq ?_
 refine r_region ?_
 refine l_a rfl ?_
 refine l_nil ?_
 refine r_block ?_
 refine r_loop (G := Nat × Value) (fun ⟨i, vo⟩ => rq.length - i) (fun ⟨i, vo⟩ => [(0, vl), (2, .int .i64 day), (3, .int .i64 o), (9, v151), (10, v183), (11, vo), (12, .int .i64 i)]) (fun ⟨i, vo⟩ w' => (i ≤ rq.length) ∧ Own nob w w' [vec ED v151 rq, vec EI v183 (idleD (dl rs) known), vec EI vo ((((dl rq).take i).filter (fun x : D => decide (x.day ≤ day) && (nm (dl rs) x).contains o && !(idleD (dl rs) known).contains x.id)).map (·.id))]) (0, .slice none 0 0) ⟨rfl, rfl, rfl, rfl, rfl, rfl, rfl, trivial⟩ ⟨Nat.zero_le _, (S5.take 3)⟩ ?_
 rintro ⟨i, vo⟩ ρ w1 ⟨hi, S1⟩ IH
 refine r_seq ?_
 refine r_seq ?_
 refine r_region ?_
 refine l_m rfl ?_
 refine l_m rfl ?_
 refine l_x rfl (x_len (vec_rd (S1.at 0 rfl)) rfl Tryz.runUnderlying23) ?_
 refine l_x rfl (x_lss rfl rfl) ?_
 refine l_nil ?_
 refine r_ifd rfl (fun hc22 => ?_) (fun hc22 => ?_)
 ·skip
  obtain ⟨a, ha⟩ : ∃ x, rq[i]? = some x := ⟨_, List.getElem?_eq_getElem (by omega)⟩
  have ham := List.mem_of_getElem? ha
  have hR := ctg_right hqq ha
  have hfa := right_formed hR (mem_dl (hqm a ham))
  have hnl := nm_len (fun y hy => right_formed hR hy) hfa
  have hil := idle_len (dl rs) known
  refine r_skip ?_
  refine r_seq ?_
  refine r_block ?_
  refine r_seq ?_
  refine r_region ?_
  refine l_m rfl ?_
  refine l_m rfl ?_
  refine l_index ED rfl (vec_rd (S1.at 0 rfl)) rfl rfl Tryz.runUnderlying23 Tryz.sizeOf26 (by omega) ha ?_
  intro b6 o7 hat8 row9
  refine l_x rfl (x_fieldAddr rfl Tryz.runUnderlying26 rfl Tryz.sizeOf3 (by decide)) ?_
  refine l_x rfl (x_load rfl (ld_cell Tryz.isAgg3 (row9 1 _ rfl))) ?_
  refine l_m rfl ?_
  refine l_x rfl (x_leq rfl rfl) ?_
  refine l_m rfl ?_
  refine l_splitd (d := 32) rfl (fun hg32 => ?_) (fun hg32 => ?_)
  ·skip
   refine l_m rfl ?_
   refine l_call [] [] [_] rfl rfl Tryz.call86 rfl (c_rowner _ _) ?_
   rintro _ w10 ⟨rfl, hl12⟩
   have S11 := S1.step hl12
   refine l_x rfl (x_pick_t rfl rfl) ?_
   refine l_m rfl ?_
   refine l_split (d := 36) rfl (fun hg36 => ?_) (fun hg36 => ?_)
   ·skip
    refine l_m rfl ?_
    refine l_m rfl ?_
    refine l_m rfl ?_
    refine l_index ED rfl (vec_rd (S11.at 0 rfl)) rfl rfl Tryz.runUnderlying23 Tryz.sizeOf26 (by omega) ha ?_
    intro b13 o14 hat15 row16
    refine l_x rfl (x_load rfl (ld_row Tryz.isAgg26 Tryz.sizeOf26 rfl row16)) ?_
    refine l_call [] [] [_, _] rfl rfl Tryz.call128 rfl (c_rnames rs vl a (fun y hy => right_formed hR hy) hfa (fun k => by have h9 := right_of hR (mem_dl (hqm a ham)) k; rw [dl_len] at h9; exact ⟨h9.1, _, List.getElem?_eq_getElem (by omega)⟩) _ (hD.le S11.le) ((hD.sub a (hqm a ham)).le S11.le)) ?_
    rintro v4217 w17 ⟨hN4217, hl4217⟩
    have S18 := S11.add hl4217 hN4217
    refine l_m rfl ?_
    refine l_call [] [] [_, _] rfl rfl Tryz.call84 rfl (c_rhas _ _ o (by omega) _ (vec_rd (S18.at 3 rfl))) ?_
    rintro _ w19 ⟨rfl, hl21⟩
    have S20 := S18.step hl21
    refine l_x rfl (x_pick_t rfl rfl) ?_
    refine l_m rfl ?_
    refine l_split (d := 46) rfl (fun hg46 => ?_) (fun hg46 => ?_)
    ·skip
     refine l_m rfl ?_
     refine l_m rfl ?_
     refine l_m rfl ?_
     refine l_index ED rfl (vec_rd (S20.at 0 rfl)) rfl rfl Tryz.runUnderlying23 Tryz.sizeOf26 (by omega) ha ?_
     intro b22 o23 hat24 row25
     refine l_x rfl (x_fieldAddr rfl Tryz.runUnderlying26 rfl Tryz.sizeOf3 (by decide)) ?_
     refine l_x rfl (x_load rfl (ld_cell Tryz.isAgg3 (row25 0 _ rfl))) ?_
     refine l_call [] [] [_, _] rfl rfl Tryz.call84 rfl (c_rhas _ _ a.1.id (by omega) _ (vec_rd (S20.at 1 rfl))) ?_
     rintro _ w26 ⟨rfl, hl28⟩
     have S27 := S20.step hl28
     refine l_x rfl (x_not rfl) ?_
     refine l_x rfl (x_pick_t rfl rfl) ?_
     refine l_nil ?_
     refine r_if rfl (fun hc55 => ?_) (fun hc55 => ?_)
     ·skip
      refine r_region ?_
      refine l_m rfl ?_
      refine l_m rfl ?_
      refine l_m rfl ?_
      refine l_index ED rfl (vec_rd (S27.at 0 rfl)) rfl rfl Tryz.runUnderlying23 Tryz.sizeOf26 (by omega) ha ?_
      intro b29 o30 hat31 row32
      refine l_x rfl (x_fieldAddr rfl Tryz.runUnderlying26 rfl Tryz.sizeOf3 (by decide)) ?_
      refine l_x rfl (x_load rfl (ld_cell Tryz.isAgg3 (row32 0 _ rfl))) ?_
      refine l_buildSlice EI [a.1.id] S27 rfl Tryz.runUnderlying24 Tryz.sizeOf3 Tryz.zeroValue3 rfl ⟨rfl, rfl, trivial⟩ (Nat.le_of_ble_eq_true rfl) ?_
      intro v36 w33 S34 hl35
      refine l_append EI S34 2 rfl rfl rfl rfl (vec_rd (S34.at 4 rfl)) Tryz.underlying24 info3 rfl rfl rfl (by rw [List.length_map]; have := List.length_filter_le (fun x : D => decide (x.day ≤ day) && (nm (dl rs) x).contains o && !(idleD (dl rs) known).contains x.id) ((dl rq).take i); rw [List.length_take, dl_len] at this; unfold maxLen; rw [List.length_singleton]; omega) (by rw [List.length_map]; have := List.length_filter_le (fun x : D => decide (x.day ≤ day) && (nm (dl rs) x).contains o && !(idleD (dl rs) known).contains x.id) ((dl rq).take i); rw [List.length_take, dl_len] at this; rw [List.length_singleton]; show _ * 8 ≤ _; omega) ?_
      intro v40 w37 S38 hk39 hv41
      refine l_a rfl ?_
      refine l_nil ?_
      refine r_inBlock ?_
      refine r_region ?_
      refine l_m rfl ?_
      refine l_x rfl (x_add rfl rfl (by omega)) ?_
      refine l_a rfl ?_
      refine l_nil ?_
      exact IH (i + 1, v40) _ _ (by dsimp only; omega) ⟨rfl, rfl, rfl, rfl, rfl, rfl, rfl, trivial⟩ ⟨by omega, (by rw [filter_step (dl_get ha), if_pos (by simp only [Bool.and_eq_true, decide_eq_true_eq]; exact ⟨⟨hg32, hg46⟩, hc55⟩), List.map_append]; exact S38.pick (L' := [_, _, _]) [0, 1, 2] (by decide) rfl)⟩
     refine r_skip ?_
     refine r_inBlock ?_
     refine r_region ?_
     refine l_m rfl ?_
     refine l_x rfl (x_add rfl rfl (by omega)) ?_
     refine l_a rfl ?_
     refine l_nil ?_
     exact IH (i + 1, vo) _ _ (by dsimp only; omega) ⟨rfl, rfl, rfl, rfl, rfl, rfl, rfl, trivial⟩ ⟨by omega, (by rw [filter_step (dl_get ha), if_neg (by intro h; simp only [Bool.and_eq_true, decide_eq_true_eq] at h; rw [hc55] at h; simp at h), List.append_nil]; exact S27.pick (L' := [_, _, _]) [0, 1, 2] (by decide) rfl)⟩
    refine l_pass rfl ?_
    refine l_pass rfl ?_
    refine l_pass rfl ?_
    refine l_pass rfl ?_
    refine l_pass rfl ?_
    refine l_pass rfl ?_
    refine l_pass rfl ?_
    refine l_pass rfl ?_
    refine l_x rfl (x_pick_f rfl rfl) ?_
    refine l_nil ?_
    refine r_false rfl ?_
    refine r_skip ?_
    refine r_inBlock ?_
    refine r_region ?_
    refine l_m rfl ?_
    refine l_x rfl (x_add rfl rfl (by omega)) ?_
    refine l_a rfl ?_
    refine l_nil ?_
    exact IH (i + 1, vo) _ _ (by dsimp only; omega) ⟨rfl, rfl, rfl, rfl, rfl, rfl, rfl, trivial⟩ ⟨by omega, (by rw [filter_step (dl_get ha), if_neg (by intro h; simp only [Bool.and_eq_true, decide_eq_true_eq] at h; rw [hg46] at h; simp at h), List.append_nil]; exact S20.pick (L' := [_, _, _]) [0, 1, 2] (by decide) rfl)⟩
   refine l_pass rfl ?_
   refine l_pass rfl ?_
   refine l_pass rfl ?_
   refine l_pass rfl ?_
   refine l_pass rfl ?_
   refine l_pass rfl ?_
   refine l_pass rfl ?_
   refine l_pass rfl ?_
   refine l_x rfl (x_pick_f rfl rfl) ?_
   refine l_m rfl ?_
   refine l_pass rfl ?_
   refine l_pass rfl ?_
   refine l_pass rfl ?_
   refine l_pass rfl ?_
   refine l_pass rfl ?_
   refine l_pass rfl ?_
   refine l_pass rfl ?_
   refine l_pass rfl ?_
   refine l_x rfl (x_pick_f rfl rfl) ?_
   refine l_nil ?_
   refine r_false rfl ?_
   refine r_skip ?_
   refine r_inBlock ?_
   refine r_region ?_
   refine l_m rfl ?_
   refine l_x rfl (x_add rfl rfl (by omega)) ?_
   refine l_a rfl ?_
   refine l_nil ?_
   exact IH (i + 1, vo) _ _ (by dsimp only; omega) ⟨rfl, rfl, rfl, rfl, rfl, rfl, rfl, trivial⟩ ⟨by omega, (by rw [filter_step (dl_get ha), if_neg (by intro h; simp only [Bool.and_eq_true, decide_eq_true_eq] at h; rw [nm_own9 (fun y hy => right_formed hR hy) hfa hg36] at h; simp at h), List.append_nil]; exact S11.pick (L' := [_, _, _]) [0, 1, 2] (by decide) rfl)⟩
  refine l_pass rfl ?_
  refine l_pass rfl ?_
  refine l_x rfl (x_pick_f rfl rfl) ?_
  refine l_m rfl ?_
  refine l_pass rfl ?_
  refine l_pass rfl ?_
  refine l_pass rfl ?_
  refine l_pass rfl ?_
  refine l_pass rfl ?_
  refine l_pass rfl ?_
  refine l_pass rfl ?_
  refine l_pass rfl ?_
  refine l_x rfl (x_pick_f rfl rfl) ?_
  refine l_m rfl ?_
  refine l_pass rfl ?_
  refine l_pass rfl ?_
  refine l_pass rfl ?_
  refine l_pass rfl ?_
  refine l_pass rfl ?_
  refine l_pass rfl ?_
  refine l_pass rfl ?_
  refine l_pass rfl ?_
  refine l_x rfl (x_pick_f rfl rfl) ?_
  refine l_nil ?_
  refine r_false rfl ?_
  refine r_skip ?_
  refine r_inBlock ?_
  refine r_region ?_
  refine l_m rfl ?_
  refine l_x rfl (x_add rfl rfl (by omega)) ?_
  refine l_a rfl ?_
  refine l_nil ?_
  exact IH (i + 1, vo) _ _ (by dsimp only; omega) ⟨rfl, rfl, rfl, rfl, rfl, rfl, rfl, trivial⟩ ⟨by omega, (by rw [filter_step (dl_get ha), if_neg (by intro h; simp only [Bool.and_eq_true, decide_eq_true_eq] at h; exact hg32 h.1.1), List.append_nil]; exact S1.pick (L' := [_, _, _]) [0, 1, 2] (by decide) rfl)⟩
 obtain rfl : i = rq.length := by omega
 refine r_exit rfl ?_
 refine r_seq ?_
 refine r_region ?_
 refine l_m rfl ?_
 refine l_call [] [] [_] rfl rfl Tryz.call116 rfl (c_rasc ((((dl rq).take rq.length).filter (fun x : D => decide (x.day ≤ day) && (nm (dl rs) x).contains o && !(idleD (dl rs) known).contains x.id)).map (·.id)) _ (by rw [List.length_map]; have := List.length_filter_le (fun x : D => decide (x.day ≤ day) && (nm (dl rs) x).contains o && !(idleD (dl rs) known).contains x.id) ((dl rq).take rq.length); rw [List.length_take, dl_len] at this; omega) _ (vec_rd (S1.at 2 rfl))) ?_
 rintro v6542 w42 ⟨hN6542, hl6542⟩
 have S43 := S1.add hl6542 hN6542
 refine l_a rfl ?_
 refine l_nil ?_
 refine r_ret (rs := [.tmp 8]) [_] Tryz.func76 rfl ⟨rfl, trivial⟩ ?_
 exact ⟨by have hN := S43.new 3 rfl; rw [← dl_len, List.take_length, ← mov_fin hqq] at hN; exact hN, S43.le⟩

end Go.Proofs

namespace Go.Proofs
open Go Go.Vk Go.Vk.Flow

open Go.Vk.Deed
abbrev stl (l c : List D) (day o : Int) : List Bool := (List.range c.length).map fun i => startB l c day o i
theorem stl_get {l c : List D} {day o : Int} {i : Nat} (h : i < c.length) : (stl l c day o)[i]? = some (startB l c day o i) := by simp [stl, h]
theorem stl_mk {l c : List D} {day o : Int} : Mk (restsB l c) (startB l c day o) c.length (stl l c day o) := by
 refine ⟨by simp [stl], fun k hk hs => by rw [stl_get hk, hs], fun k hk => ?_⟩
 have h1 := (List.getElem?_eq_some_iff.1 hk).1
 rw [stl, List.length_map, List.length_range] at h1
 rw [stl_get h1] at hk
 exact ⟨k, Option.some.inj hk, .refl _⟩
abbrev mids (c : List D) (ms : List Bool) (i : Nat) : List Int := ((List.range i).filter fun k => decide (ms[k]? = some true)).map (idAt c)
theorem mids_step {c : List D} {ms : List Bool} {i : Nat} {x : D} {b : Bool} (hx : c[i]? = some x) (hb : ms[i]? = some b) : mids c ms (i + 1) = mids c ms i ++ if b = true then [x.id] else [] := by
 unfold mids
 rw [List.range_succ, List.filter_append, List.map_append]
 congr 1
 show ([i].filter _).map _ = _
 cases b with
 | true => rw [List.filter_cons_of_pos (by rw [hb]; simp)]; show [idAt c i] = _; rw [idAt_get hx]; rfl
 | false => rw [List.filter_cons_of_neg (by rw [hb]; simp)]; rfl
theorem mids_len {c : List D} {ms : List Bool} (i : Nat) : (mids c ms i).length ≤ i := by
 rw [List.length_map]; exact Nat.le_trans (List.length_filter_le _ _) (by rw [List.length_range]; exact Nat.le_refl _)
theorem lin_fin {l c : List D} {known day o : Int} {ms : List Bool} (hq : c = if rightD l = true then counting l known else []) (ho : own o = true) (h : Mk (restsB l c) (startB l c day o) c.length ms) (hc : ∀ j, j < c.length → ms[j]? = some true → ∀ q, q < c.length → restsB l c j q = true → ms[q]? = some true) :
  Go.Vk.Deed.asc (mids c ms c.length) = lineageD l known day o := by
 unfold mids
 rw [mark_lin h hc]
 unfold lineageD
 by_cases hR : rightD l = true
 ·rw [if_pos ⟨hR, ho⟩]
  rw [if_pos hR] at hq
  subst hq; rfl
 rw [if_neg (fun g => hR g.1)]
 rw [if_neg hR] at hq
 subst hq
 exact asc_eq (.refl _) .nil

theorem pas_dec9 {R : Nat → Nat → Bool} {n i k : Nat} {ms m2 : List Bool} {ch c2 : Bool} (h : Pas R n ms m2 c2 i k) (hc : ch = true) : 2 * cf m2 + c2.toNat < 2 * cf ms + ch.toNat := by
 have h1 := h.le
 have h2 := h.lt
 subst hc
 cases c2 with
 | true => have := h2 rfl; simp only [Bool.toNat_true]; omega
 | false => simp only [Bool.toNat_true, Bool.toNat_false]; omega

theorem set_true9 {ms : List Bool} {i k : Nat} (h : ms[i]? = some true) : (ms.set k true)[i]? = some true := by
 rw [List.getElem?_set]
 split
 ·next e =>
  subst e
  rw [if_pos (List.getElem?_eq_some_iff.1 h).1]
 exact h

set_option maxHeartbeats 8000000 in
theorem c_rLineage (rs : List Rw) (vl : Value) (known : Int) (day o : Int) (w : World) (hD : DsR 26 3 w vl rs) :
  Cl Tryz.prog 74 #[vl, .int .i64 known, .int .i64 day, .int .i64 o] w fun v w' => New w w' (vec EI v (lineageD (dl rs) known day o)) ∧ Le w w' := by
 refine fn_of_run (args := [_, _, _, _]) 151 Tryz.func74 rfl rfl rfl fun cs => ?_
 have S := Own.start (X := nob) w
 refine r_seq ?_
 refine r_region ?_
 refine l_a rfl ?_
 refine l_nil ?_
 refine r_seq ?_
 refine r_seq ?_
 refine r_region ?_
 refine l_m rfl ?_
 refine l_call [] [] [_] rfl rfl Tryz.call86 rfl (c_rowner _ _) ?_
 rintro _ w1 ⟨rfl, hl3⟩
 have S2 := S.step hl3
 refine l_x rfl (x_not rfl) ?_
 refine l_nil ?_
 refine r_if rfl (fun hc21 => ?_) (fun hc21 => ?_)
 ·skip
  refine r_seq ?_
  refine r_region ?_
  refine l_a rfl ?_
  refine l_nil ?_
  refine r_ret (rs := [.tmp 8]) [_] Tryz.func74 rfl ⟨rfl, trivial⟩ ?_
  exact ⟨by rw [lineageD, if_neg (by simp_all)]; exact New.nilvec .., S2.le⟩
 have ho9 : own o = true := by simpa using hc21
 refine r_skip ?_
 refine r_seq ?_
 refine r_region ?_
 refine l_m rfl ?_
 refine l_m rfl ?_
 refine l_call [] [] [_, _] rfl rfl Tryz.call50 rfl (c_rCounting rs vl known _ (hD.le S2.le)) ?_
 rintro v244 w4 ⟨rq244, hq244, hm244, hN244, hl244⟩
 have S5 := S2.add hl244 hN244
 obtain ⟨rq, hrqe⟩ : ∃ q, q = rq244 := ⟨_, rfl⟩
 subst hrqe
 have hqq := hq244
 have hqm := hm244
 have hlq := ctg_len hqq
 obtain ⟨hqp, hqs⟩ := ctg_play hqq
 refine l_a rfl ?_
 refine l_nil ?_
 refine r_seq ?_
 refine r_region ?_
 refine l_m rfl ?_
 refine l_x rfl (x_len (vec_rd (S5.at 0 rfl)) rfl Tryz.runUnderlying23) ?_
 refine l_make EB false S5 rfl Tryz.runUnderlying106 Tryz.sizeOf4 Tryz.typeInfo4 Tryz.zeroValue4 rfl rfl rfl rfl (Nat.le_refl _) (by unfold maxLen; omega) (by show _ * 1 ≤ _; omega) ?_
 intro v9 w6 hv10 S7 hl8
 refine l_a rfl ?_
 refine l_nil ?_
 refine r_seq ?_
 refine r_seq ?_
 refine r_region ?_
 refine l_a rfl ?_
 refine l_nil ?_
 refine r_block ?_
 refine r_loop (G := Nat) (fun i => rq.length - i) (fun i => [(0, vl), (2, .int .i64 day), (3, .int .i64 o), (9, v244), (10, v9), (11, .int .i64 i)]) (fun i w' => (i ≤ rq.length) ∧ Own nob w w' [vec ED v244 rq, vec EB v9 (pre (stl (dl rs) (dl rq) day o) false i)]) 0 ⟨rfl, rfl, rfl, rfl, rfl, rfl, trivial⟩ ⟨Nat.zero_le _, (by rw [pre_zero, List.length_map, List.length_range, dl_len]; exact S7.take 2)⟩ ?_
 rintro i ρ w1 ⟨hi, S1⟩ IH
 refine r_seq ?_
 refine r_seq ?_
 refine r_region ?_
 refine l_m rfl ?_
 refine l_m rfl ?_
 refine l_x rfl (x_len (vec_rd (S1.at 0 rfl)) rfl Tryz.runUnderlying23) ?_
 refine l_x rfl (x_lss rfl rfl) ?_
 refine l_nil ?_
 refine r_ifd rfl (fun hc31 => ?_) (fun hc31 => ?_)
 ·skip
  obtain ⟨a, ha⟩ : ∃ x, rq[i]? = some x := ⟨_, List.getElem?_eq_getElem (by omega)⟩
  have ham := List.mem_of_getElem? ha
  have hR := ctg_right hqq ha
  have hfa := right_formed hR (mem_dl (hqm a ham))
  have hnla := nm_len (fun y hy => right_formed hR hy) hfa
  refine r_skip ?_
  refine r_seq ?_
  refine r_block ?_
  refine r_region ?_
  refine l_m rfl ?_
  refine l_m rfl ?_
  refine l_m rfl ?_
  refine l_m rfl ?_
  refine l_index ED rfl (vec_rd (S1.at 0 rfl)) rfl rfl Tryz.runUnderlying23 Tryz.sizeOf26 (by omega) ha ?_
  intro b11 o12 hat13 row14
  refine l_x rfl (x_fieldAddr rfl Tryz.runUnderlying26 rfl Tryz.sizeOf3 (by decide)) ?_
  refine l_x rfl (x_load rfl (ld_cell Tryz.isAgg3 (row14 1 _ rfl))) ?_
  refine l_m rfl ?_
  refine l_x rfl (x_leq rfl rfl) ?_
  refine l_m rfl ?_
  refine l_splitd (d := 43) rfl (fun hg43 => ?_) (fun hg43 => ?_)
  ·skip
   refine l_m rfl ?_
   refine l_m rfl ?_
   refine l_m rfl ?_
   refine l_index ED rfl (vec_rd (S1.at 0 rfl)) rfl rfl Tryz.runUnderlying23 Tryz.sizeOf26 (by omega) ha ?_
   intro b15 o16 hat17 row18
   refine l_x rfl (x_load rfl (ld_row Tryz.isAgg26 Tryz.sizeOf26 rfl row18)) ?_
   refine l_call [] [] [_, _] rfl rfl Tryz.call128 rfl (c_rnames rs vl a (fun y hy => right_formed hR hy) hfa (fun k => by have h9 := right_of hR (mem_dl (hqm a ham)) k; rw [dl_len] at h9; exact ⟨h9.1, _, List.getElem?_eq_getElem (by omega)⟩) _ (hD.le S1.le) ((hD.sub a (hqm a ham)).le S1.le)) ?_
   rintro v4919 w19 ⟨hN4919, hl4919⟩
   have S20 := S1.add hl4919 hN4919
   refine l_m rfl ?_
   refine l_call [] [] [_, _] rfl rfl Tryz.call84 rfl (c_rhas _ _ o (by omega) _ (vec_rd (S20.at 2 rfl))) ?_
   rintro _ w21 ⟨rfl, hl23⟩
   have S22 := S20.step hl23
   refine l_x rfl (x_pick_t rfl rfl) ?_
   refine l_index EB rfl (vec_rd (S22.at 1 rfl)) rfl rfl Tryz.runUnderlying106 Tryz.sizeOf4 (by omega) (pre_get (by rw [List.length_map, List.length_range, dl_len]; omega)) ?_
   intro b24 o25 hat26 row27
   refine l_storevb (f := 0) S22 1 rfl rfl hat26 rfl rfl Tryz.sizeOf4 (pre_get (by rw [List.length_map, List.length_range, dl_len]; omega)) (by decide) rfl ?_
   intro w28 S29 hk30
   refine l_nil ?_
   refine r_inBlock ?_
   refine r_region ?_
   refine l_m rfl ?_
   refine l_x rfl (x_add rfl rfl (by omega)) ?_
   refine l_a rfl ?_
   refine l_nil ?_
   exact IH (i + 1) _ _ (by omega) ⟨rfl, rfl, rfl, rfl, rfl, rfl, trivial⟩ ⟨by omega, (by rw [← pre_step (show (stl (dl rs) (dl rq) day o)[i]? = some ((nm (dl rs) a.1).contains o) by rw [stl_get (by rw [dl_len]; omega)]; unfold startB; rw [dl_get ha]; show some (decide (a.1.day ≤ day) && _) = _; rw [decide_eq_true hg43, Bool.true_and])]; exact S29.take 2)⟩
  refine l_pass rfl ?_
  refine l_pass rfl ?_
  refine l_pass rfl ?_
  refine l_pass rfl ?_
  refine l_pass rfl ?_
  refine l_pass rfl ?_
  refine l_pass rfl ?_
  refine l_pass rfl ?_
  refine l_x rfl (x_pick_f rfl rfl) ?_
  refine l_index EB rfl (vec_rd (S1.at 1 rfl)) rfl rfl Tryz.runUnderlying106 Tryz.sizeOf4 (by omega) (pre_get (by rw [List.length_map, List.length_range, dl_len]; omega)) ?_
  intro b31 o32 hat33 row34
  refine l_storevb (f := 0) S1 1 rfl rfl hat33 rfl rfl Tryz.sizeOf4 (pre_get (by rw [List.length_map, List.length_range, dl_len]; omega)) (by decide) rfl ?_
  intro w35 S36 hk37
  refine l_nil ?_
  refine r_inBlock ?_
  refine r_region ?_
  refine l_m rfl ?_
  refine l_x rfl (x_add rfl rfl (by omega)) ?_
  refine l_a rfl ?_
  refine l_nil ?_
  exact IH (i + 1) _ _ (by omega) ⟨rfl, rfl, rfl, rfl, rfl, rfl, trivial⟩ ⟨by omega, (by rw [← pre_step (show (stl (dl rs) (dl rq) day o)[i]? = some (false) by rw [stl_get (by rw [dl_len]; omega)]; unfold startB; rw [dl_get ha]; show some (decide (a.1.day ≤ day) && _) = _; rw [decide_eq_false hg43, Bool.false_and])]; exact S36.take 2)⟩
 obtain rfl : i = rq.length := by omega
 refine r_exit rfl ?_
 refine r_seq ?_
 refine r_seq ?_
 refine r_region ?_
 refine l_a rfl ?_
 refine l_nil ?_
 refine r_block ?_
 refine r_loop (G := List Bool × Bool) (fun ⟨ms, ch⟩ => 2 * cf ms + ch.toNat) (fun ⟨ms, ch⟩ => [(0, vl), (9, v244), (10, v9), (12, .bool ch)]) (fun ⟨ms, ch⟩ w' => (Mk (restsB (dl rs) (dl rq)) (startB (dl rs) (dl rq) day o) (dl rq).length ms) ∧ (ch = false → ∀ j, j < (dl rq).length → ms[j]? = some true → ∀ q, q < (dl rq).length → (restsB (dl rs) (dl rq)) j q = true → ms[q]? = some true) ∧ Own nob w w' [vec ED v244 rq, vec EB v9 ms]) ((stl (dl rs) (dl rq) day o), true) ⟨rfl, rfl, rfl, rfl, trivial⟩ ⟨stl_mk, nofun, (by have hS := S1.take 2; rw [show rq.length = (stl (dl rs) (dl rq) day o).length by rw [List.length_map, List.length_range, dl_len], pre_full] at hS; exact hS)⟩ ?_
 rintro ⟨ms, ch⟩ ρ w1b ⟨hM, hcl, S1b⟩ IHb
 refine r_seq ?_
 refine r_seq ?_
 refine r_region ?_
 refine l_m rfl ?_
 refine l_nil ?_
 refine r_if rfl (fun hc54 => ?_) (fun hc54 => ?_)
 ·skip
  refine r_skip ?_
  refine r_block ?_
  refine r_seq ?_
  refine r_region ?_
  refine l_a rfl ?_
  refine l_nil ?_
  refine r_seq ?_
  refine r_region ?_
  refine l_a rfl ?_
  refine l_nil ?_
  refine r_block ?_
  refine r_loop (G := Nat × List Bool × Bool) (fun ⟨i, m2, c2⟩ => rq.length - i) (fun ⟨i, m2, c2⟩ => [(0, vl), (9, v244), (10, v9), (12, .bool c2), (13, .int .i64 i)]) (fun ⟨i, m2, c2⟩ w' => (i ≤ rq.length) ∧ (Mk (restsB (dl rs) (dl rq)) (startB (dl rs) (dl rq) day o) (dl rq).length m2) ∧ (Pas (restsB (dl rs) (dl rq)) (dl rq).length ms m2 c2 i 0) ∧ Own nob w w' [vec ED v244 rq, vec EB v9 m2]) (0, ms, false) ⟨rfl, rfl, rfl, rfl, rfl, trivial⟩ ⟨Nat.zero_le _, hM, .start, (S1b.take 2)⟩ ?_
  rintro ⟨i, m2, c2⟩ ρ w1c ⟨hi, hM2, hP, S1c⟩ IHc
  refine r_seq ?_
  refine r_seq ?_
  refine r_region ?_
  refine l_m rfl ?_
  refine l_m rfl ?_
  refine l_x rfl (x_len (vec_rd (S1c.at 0 rfl)) rfl Tryz.runUnderlying23) ?_
  refine l_x rfl (x_lss rfl rfl) ?_
  refine l_nil ?_
  refine r_ifd rfl (fun hc58 => ?_) (fun hc58 => ?_)
  ·skip
   obtain ⟨a, ha⟩ : ∃ x, rq[i]? = some x := ⟨_, List.getElem?_eq_getElem (by omega)⟩
   have ham := List.mem_of_getElem? ha
   have hR := ctg_right hqq ha
   have hfa := right_formed hR (mem_dl (hqm a ham))
   have hnla := nm_len (fun y hy => right_formed hR hy) hfa
   have hlm := hM2.len
   rw [dl_len] at hlm
   obtain ⟨bi, hbi⟩ : ∃ x, m2[i]? = some x := ⟨_, List.getElem?_eq_getElem (by omega)⟩
   refine r_skip ?_
   refine r_seq ?_
   refine r_block ?_
   refine r_seq ?_
   refine r_seq ?_
   refine r_region ?_
   refine l_m rfl ?_
   refine l_m rfl ?_
   refine l_index EB rfl (vec_rd (S1c.at 1 rfl)) rfl rfl Tryz.runUnderlying106 Tryz.sizeOf4 (by omega) hbi ?_
   intro b38 o39 hat40 row41
   refine l_x rfl (x_load rfl (ld_cell Tryz.isAgg4 (row41 0 _ rfl))) ?_
   refine l_x rfl (x_not rfl) ?_
   refine l_nil ?_
   refine r_if rfl (fun hc65 => ?_) (fun hc65 => ?_)
   ·skip
    refine r_exit rfl ?_
    refine r_region ?_
    refine l_m rfl ?_
    refine l_x rfl (x_add rfl rfl (by omega)) ?_
    refine l_a rfl ?_
    refine l_nil ?_
    exact IHc (i + 1, m2, c2) _ _ (by dsimp only; omega) ⟨rfl, rfl, rfl, rfl, rfl, trivial⟩ ⟨by omega, hM2, hP.skip (by rw [hbi]; simp_all), (S1c.take 2)⟩
   have hbt : bi = true := by simpa using hc65
   subst hbt
   refine r_skip ?_
   refine r_seq ?_
   refine r_region ?_
   refine l_a rfl ?_
   refine l_nil ?_
   refine r_block ?_
   refine r_loop (G := Nat × List Bool × Bool) (fun ⟨k, m3, c3⟩ => rq.length - k) (fun ⟨k, m3, c3⟩ => [(0, vl), (9, v244), (10, v9), (12, .bool c3), (13, .int .i64 i), (14, .int .i64 k)]) (fun ⟨k, m3, c3⟩ w' => (k ≤ rq.length) ∧ (Mk (restsB (dl rs) (dl rq)) (startB (dl rs) (dl rq) day o) (dl rq).length m3) ∧ (Pas (restsB (dl rs) (dl rq)) (dl rq).length ms m3 c3 i k) ∧ (m3[i]? = some true) ∧ Own nob w w' [vec ED v244 rq, vec EB v9 m3]) (0, m2, c2) ⟨rfl, rfl, rfl, rfl, rfl, rfl, trivial⟩ ⟨Nat.zero_le _, hM2, hP, hbi, (S1c.take 2)⟩ ?_
   rintro ⟨k, m3, c3⟩ ρ w1d ⟨hk, hM3, hP3, hmi, S1d⟩ IHd
   refine r_seq ?_
   refine r_seq ?_
   refine r_region ?_
   refine l_m rfl ?_
   refine l_m rfl ?_
   refine l_x rfl (x_len (vec_rd (S1d.at 0 rfl)) rfl Tryz.runUnderlying23) ?_
   refine l_x rfl (x_lss rfl rfl) ?_
   refine l_nil ?_
   refine r_ifd rfl (fun hc69 => ?_) (fun hc69 => ?_)
   ·skip
    obtain ⟨b, hb⟩ : ∃ x, rq[k]? = some x := ⟨_, List.getElem?_eq_getElem (by omega)⟩
    have hbm := List.mem_of_getElem? hb
    have hR := ctg_right hqq hb
    have hfb := right_formed hR (mem_dl (hqm b hbm))
    have hnlb := nm_len (fun y hy => right_formed hR hy) hfb
    have hlm3 := hM3.len
    rw [dl_len] at hlm3
    obtain ⟨bk, hbk⟩ : ∃ x, m3[k]? = some x := ⟨_, List.getElem?_eq_getElem (by omega)⟩
    have hRR : (restsB (dl rs) (dl rq)) i k = ((decide (a.1.kind = 6 ∨ a.1.kind = 7) && decide (b.1.id = a.1.of)) || (decide (k < i) && meetB (nm (dl rs) a.1) (nm (dl rs) b.1))) := by unfold restsB; rw [dl_get ha, dl_get hb]
    refine r_skip ?_
    refine r_seq ?_
    refine r_block ?_
    refine r_seq ?_
    refine r_drawE 17 nob Tryz.mixed (by kernel_rfl) ?_
    intro w42 hl43
    have S44 := S1d.step hl43
    refine e_exact 0 _ (by kernel_rfl) rfl rfl (by kernel_rfl) rfl (ex_x rfl (fun w1 h1 => x_mv rfl)) ?_
    refine e_exact 1 _ (by kernel_rfl) rfl rfl (by kernel_rfl) rfl (ex_x rfl (fun w1 h1 => x_mv rfl)) ?_
    refine e_exact 2 _ (by kernel_rfl) rfl rfl (by kernel_rfl) rfl (ex_x rfl (fun w1 h1 => x_lss rfl rfl)) ?_
    refine e_exact 3 _ (by kernel_rfl) rfl rfl (by kernel_rfl) rfl (ex_x rfl (fun w1 h1 => x_mv rfl)) ?_
    refine e_splitd (d := 75) rfl (fun hg75 => ?_) (fun hg75 => ?_)
    ·skip
     refine e_exact 4 _ (by kernel_rfl) rfl rfl (by kernel_rfl) rfl (ex_x rfl (fun w1 h1 => x_mv rfl)) ?_
     refine e_exact 5 _ (by kernel_rfl) rfl rfl (by kernel_rfl) rfl (ex_x rfl (fun w1 h1 => x_mv rfl)) ?_
     refine e_exact 6 _ (by kernel_rfl) rfl rfl (by kernel_rfl) rfl (ex_x rfl (fun w1 h1 => x_mv rfl)) ?_
     refine e_index ED 7 (by kernel_rfl) rfl rfl (by kernel_rfl) rfl rfl (vec_rd (S44.at 0 rfl)) rfl rfl Tryz.runUnderlying23 Tryz.sizeOf26 (by omega) hb ?_
     intro b45 o46 hat47
     refine e_exact 8 _ (by kernel_rfl) rfl rfl (by kernel_rfl) rfl (ex_x rfl (fun w1 h1 => x_load rfl (ld_row Tryz.isAgg26 Tryz.sizeOf26 rfl (rd_row (vec_rd ((S44.step h1).at 0 rfl)) hat47 hb)))) ?_
     refine e_exact 10 _ (by kernel_rfl) rfl rfl (by kernel_rfl) rfl (ex_x rfl (fun w1 h1 => x_mv rfl)) ?_
     refine e_exact 11 _ (by kernel_rfl) rfl rfl (by kernel_rfl) rfl (ex_x rfl (fun w1 h1 => x_mv rfl)) ?_
     refine e_exact 12 _ (by kernel_rfl) rfl rfl (by kernel_rfl) rfl (ex_x rfl (fun w1 h1 => x_mv rfl)) ?_
     refine e_index ED 13 (by kernel_rfl) rfl rfl (by kernel_rfl) rfl rfl (vec_rd (S44.at 0 rfl)) rfl rfl Tryz.runUnderlying23 Tryz.sizeOf26 (by omega) ha ?_
     intro b48 o49 hat50
     refine e_exact 14 _ (by kernel_rfl) rfl rfl (by kernel_rfl) rfl (ex_x rfl (fun w1 h1 => x_load rfl (ld_row Tryz.isAgg26 Tryz.sizeOf26 rfl (rd_row (vec_rd ((S44.step h1).at 0 rfl)) hat50 ha)))) ?_
     refine e_next [9] (by kernel_rfl) (by kernel_rfl) ⟨⟨_, _, rfl, rfl, ?_⟩, trivial⟩
     refine s_callf [] [] [_, _] rfl rfl Tryz.call128 rfl ((c_rnames rs vl b (fun y hy => right_formed hR hy) hfb (fun k => by have h9 := right_of hR (mem_dl (hqm b hbm)) k; rw [dl_len] at h9; exact ⟨h9.1, _, List.getElem?_eq_getElem (by omega)⟩) _ (hD.le S44.le) ((hD.sub b (hqm b hbm)).le S44.le)).mono ?_)
     rintro v8151 w51 ⟨hN8151, hl8151⟩
     have S52 := S44.add hl8151 hN8151
     refine ⟨.of_le hl8151, ?_⟩
     refine e_next [15] (by kernel_rfl) (by kernel_rfl) ⟨⟨_, _, rfl, rfl, ?_⟩, trivial⟩
     refine s_callf [] [] [_, _] rfl rfl Tryz.call128 rfl ((c_rnames rs vl a (fun y hy => right_formed hR hy) hfa (fun k => by have h9 := right_of hR (mem_dl (hqm a ham)) k; rw [dl_len] at h9; exact ⟨h9.1, _, List.getElem?_eq_getElem (by omega)⟩) _ (hD.le S52.le) ((hD.sub a (hqm a ham)).le S52.le)).mono ?_)
     rintro v8753 w53 ⟨hN8753, hl8753⟩
     have S54 := S52.add hl8753 hN8753
     refine ⟨.of_le hl8753, ?_⟩
     refine e_next [16] (by kernel_rfl) (by kernel_rfl) ⟨⟨_, _, rfl, rfl, ?_⟩, trivial⟩
     refine s_callf [] [] [_, _] rfl rfl Tryz.call129 rfl ((c_rmeet _ _ _ _ (by omega) (by omega) _ (vec_rd (S54.at 2 rfl)) (vec_rd (S54.at 3 rfl))).mono ?_)
     rintro _ w55 ⟨rfl, hl57⟩
     have S56 := S54.step hl57
     refine ⟨.of_le hl57, ?_⟩
     refine e_done (by kernel_rfl) ?_
     refine l_x rfl (x_pick_t rfl rfl) ?_
     refine l_a rfl ?_
     refine l_nil ?_
     refine r_seq ?_
     refine r_drawR 28 Tryz.mixed (by kernel_rfl) ?_
     refine w_x rfl (fun w1 h1 => x_mv rfl) ?_
     refine w_x rfl (fun w1 h1 => x_mv rfl) ?_
     refine w_index ED rfl (vec_rd (S56.at 0 rfl)) rfl rfl Tryz.runUnderlying23 Tryz.sizeOf26 (by omega) ha ?_
     intro b58 o59 hat60 row61
     refine w_x rfl (fun w1 h1 => x_fieldAddr rfl Tryz.runUnderlying26 rfl Tryz.sizeOf5 (by decide)) ?_
     refine w_x rfl (fun w1 h1 => x_load rfl (ld_cell Tryz.isAgg5 ((row61.le h1) 3 _ rfl))) ?_
     refine w_x rfl (fun w1 h1 => x_eql rfl rfl) ?_
     refine w_x rfl (fun w1 h1 => x_mv rfl) ?_
     refine w_splitd (d := 96) rfl (fun hg96 => ?_) (fun hg96 => ?_)
     ·skip
      refine w_pass rfl ?_
      refine w_pass rfl ?_
      refine w_pass rfl ?_
      refine w_pass rfl ?_
      refine w_pass rfl ?_
      refine w_pass rfl ?_
      refine w_x rfl (fun w1 h1 => x_pick_t rfl rfl) ?_
      refine w_x rfl (fun w1 h1 => x_mv rfl) ?_
      refine w_x rfl (fun w1 h1 => x_mv rfl) ?_
      refine w_x rfl (fun w1 h1 => x_mv rfl) ?_
      refine w_index ED rfl (vec_rd (S56.at 0 rfl)) rfl rfl Tryz.runUnderlying23 Tryz.sizeOf26 (by omega) hb ?_
      intro b62 o63 hat64 row65
      refine w_x rfl (fun w1 h1 => x_fieldAddr rfl Tryz.runUnderlying26 rfl Tryz.sizeOf3 (by decide)) ?_
      refine w_x rfl (fun w1 h1 => x_load rfl (ld_cell Tryz.isAgg3 ((row65.le h1) 0 _ rfl))) ?_
      refine w_x rfl (fun w1 h1 => x_mv rfl) ?_
      refine w_x rfl (fun w1 h1 => x_mv rfl) ?_
      refine w_index ED rfl (vec_rd (S56.at 0 rfl)) rfl rfl Tryz.runUnderlying23 Tryz.sizeOf26 (by omega) ha ?_
      intro b66 o67 hat68 row69
      refine w_x rfl (fun w1 h1 => x_fieldAddr rfl Tryz.runUnderlying26 rfl Tryz.sizeOf3 (by decide)) ?_
      refine w_x rfl (fun w1 h1 => x_load rfl (ld_cell Tryz.isAgg3 ((row69.le h1) 8 _ rfl))) ?_
      refine w_x rfl (fun w1 h1 => x_eql rfl rfl) ?_
      refine w_x rfl (fun w1 h1 => x_pick_t rfl rfl) ?_
      refine w_x rfl (fun w1 h1 => x_as rfl) ?_
      refine w_nil ?_
      intro w70 hl71
      have S72 := S56.step hl71
      refine l_nil ?_
      refine r_seq ?_
      refine r_region ?_
      refine l_m rfl ?_
      refine l_m rfl ?_
      refine l_index EB rfl (vec_rd (S72.at 1 rfl)) rfl rfl Tryz.runUnderlying106 Tryz.sizeOf4 (by omega) hbk ?_
      intro b73 o74 hat75 row76
      refine l_x rfl (x_load rfl (ld_cell Tryz.isAgg4 (row76 0 _ rfl))) ?_
      refine l_x rfl (x_not rfl) ?_
      refine l_m rfl ?_
      refine l_split (d := 122) rfl (fun hg122 => ?_) (fun hg122 => ?_)
      ·skip
       refine l_m rfl ?_
       refine l_m rfl ?_
       refine l_split (d := 124) rfl (fun hg124 => ?_) (fun hg124 => ?_)
       ·skip
        refine l_pass rfl ?_
        refine l_x rfl (x_pick_t rfl rfl) ?_
        refine l_x rfl (x_pick_t rfl rfl) ?_
        refine l_nil ?_
        refine r_true rfl ?_
        refine r_seq ?_
        refine r_region ?_
        refine l_m rfl ?_
        refine l_m rfl ?_
        refine l_index EB rfl (vec_rd (S72.at 1 rfl)) rfl rfl Tryz.runUnderlying106 Tryz.sizeOf4 (by omega) hbk ?_
        intro b77 o78 hat79 row80
        refine l_storevb (f := 0) S72 1 rfl rfl hat79 rfl rfl Tryz.sizeOf4 hbk (by decide) rfl ?_
        intro w81 S82 hk83
        refine l_nil ?_
        refine r_region ?_
        refine l_a rfl ?_
        refine l_nil ?_
        refine r_inBlock ?_
        refine r_region ?_
        refine l_m rfl ?_
        refine l_x rfl (x_add rfl rfl (by omega)) ?_
        refine l_a rfl ?_
        refine l_nil ?_
        have hRk : (restsB (dl rs) (dl rq)) i k = true := by rw [hRR, meet_comm9, hg124, decide_eq_true (by omega : k < i)]; simp
        have hbf : m3[k]? = some false := by rw [hbk]; simpa using hg122
        exact IHd (k + 1, m3.set k true, true) _ _ (by dsimp only; omega) ⟨rfl, rfl, rfl, rfl, rfl, rfl, trivial⟩ ⟨by omega, hM3.set hmi hRk, hP3.set hbf, set_true9 hmi, (S82.take 2)⟩
       refine l_m rfl ?_
       refine l_x rfl (x_pick_f rfl rfl) ?_
       refine l_x rfl (x_pick_t rfl rfl) ?_
       refine l_nil ?_
       refine r_ifd rfl (fun hc127 => ?_) (fun hc127 => ?_)
       ·skip
        refine r_seq ?_
        refine r_region ?_
        refine l_m rfl ?_
        refine l_m rfl ?_
        refine l_index EB rfl (vec_rd (S72.at 1 rfl)) rfl rfl Tryz.runUnderlying106 Tryz.sizeOf4 (by omega) hbk ?_
        intro b84 o85 hat86 row87
        refine l_storevb (f := 0) S72 1 rfl rfl hat86 rfl rfl Tryz.sizeOf4 hbk (by decide) rfl ?_
        intro w88 S89 hk90
        refine l_nil ?_
        refine r_region ?_
        refine l_a rfl ?_
        refine l_nil ?_
        refine r_inBlock ?_
        refine r_region ?_
        refine l_m rfl ?_
        refine l_x rfl (x_add rfl rfl (by omega)) ?_
        refine l_a rfl ?_
        refine l_nil ?_
        have hRk : (restsB (dl rs) (dl rq)) i k = true := by rw [hRR, decide_eq_true (show a.1.kind = 6 ∨ a.1.kind = 7 by omega), decide_eq_true hc127]; rfl
        have hbf : m3[k]? = some false := by rw [hbk]; simpa using hg122
        exact IHd (k + 1, m3.set k true, true) _ _ (by dsimp only; omega) ⟨rfl, rfl, rfl, rfl, rfl, rfl, trivial⟩ ⟨by omega, hM3.set hmi hRk, hP3.set hbf, set_true9 hmi, (S89.take 2)⟩
       refine r_skip ?_
       refine r_inBlock ?_
       refine r_region ?_
       refine l_m rfl ?_
       refine l_x rfl (x_add rfl rfl (by omega)) ?_
       refine l_a rfl ?_
       refine l_nil ?_
       have hRk : (restsB (dl rs) (dl rq)) i k = false := by rw [hRR, decide_eq_false hc127, Bool.and_false, meet_comm9, hg124, Bool.and_false]; rfl
       exact IHd (k + 1, m3, c3) _ _ (by dsimp only; omega) ⟨rfl, rfl, rfl, rfl, rfl, rfl, trivial⟩ ⟨by omega, hM3, hP3.keep (.inr hRk), hmi, (S72.take 2)⟩
      refine l_pass rfl ?_
      refine l_pass rfl ?_
      refine l_pass rfl ?_
      refine l_pass rfl ?_
      refine l_x rfl (x_pick_f rfl rfl) ?_
      refine l_nil ?_
      refine r_false rfl ?_
      refine r_skip ?_
      refine r_inBlock ?_
      refine r_region ?_
      refine l_m rfl ?_
      refine l_x rfl (x_add rfl rfl (by omega)) ?_
      refine l_a rfl ?_
      refine l_nil ?_
      have hbt : m3[k]? = some true := by rw [hbk]; simpa using hg122
      exact IHd (k + 1, m3, c3) _ _ (by dsimp only; omega) ⟨rfl, rfl, rfl, rfl, rfl, rfl, trivial⟩ ⟨by omega, hM3, hP3.keep (.inl hbt), hmi, (S72.take 2)⟩
     refine w_x rfl (fun w1 h1 => x_mv rfl) ?_
     refine w_x rfl (fun w1 h1 => x_mv rfl) ?_
     refine w_index ED rfl (vec_rd (S56.at 0 rfl)) rfl rfl Tryz.runUnderlying23 Tryz.sizeOf26 (by omega) ha ?_
     intro b91 o92 hat93 row94
     refine w_x rfl (fun w1 h1 => x_fieldAddr rfl Tryz.runUnderlying26 rfl Tryz.sizeOf5 (by decide)) ?_
     refine w_x rfl (fun w1 h1 => x_load rfl (ld_cell Tryz.isAgg5 ((row94.le h1) 3 _ rfl))) ?_
     refine w_x rfl (fun w1 h1 => x_eql rfl rfl) ?_
     refine w_x rfl (fun w1 h1 => x_pick_f rfl rfl) ?_
     refine w_x rfl (fun w1 h1 => x_mv rfl) ?_
     refine w_splitd (d := 104) rfl (fun hg104 => ?_) (fun hg104 => ?_)
     ·skip
      refine w_x rfl (fun w1 h1 => x_mv rfl) ?_
      refine w_x rfl (fun w1 h1 => x_mv rfl) ?_
      refine w_index ED rfl (vec_rd (S56.at 0 rfl)) rfl rfl Tryz.runUnderlying23 Tryz.sizeOf26 (by omega) hb ?_
      intro b95 o96 hat97 row98
      refine w_x rfl (fun w1 h1 => x_fieldAddr rfl Tryz.runUnderlying26 rfl Tryz.sizeOf3 (by decide)) ?_
      refine w_x rfl (fun w1 h1 => x_load rfl (ld_cell Tryz.isAgg3 ((row98.le h1) 0 _ rfl))) ?_
      refine w_x rfl (fun w1 h1 => x_mv rfl) ?_
      refine w_x rfl (fun w1 h1 => x_mv rfl) ?_
      refine w_index ED rfl (vec_rd (S56.at 0 rfl)) rfl rfl Tryz.runUnderlying23 Tryz.sizeOf26 (by omega) ha ?_
      intro b99 o100 hat101 row102
      refine w_x rfl (fun w1 h1 => x_fieldAddr rfl Tryz.runUnderlying26 rfl Tryz.sizeOf3 (by decide)) ?_
      refine w_x rfl (fun w1 h1 => x_load rfl (ld_cell Tryz.isAgg3 ((row102.le h1) 8 _ rfl))) ?_
      refine w_x rfl (fun w1 h1 => x_eql rfl rfl) ?_
      refine w_x rfl (fun w1 h1 => x_pick_t rfl rfl) ?_
      refine w_x rfl (fun w1 h1 => x_as rfl) ?_
      refine w_nil ?_
      intro w103 hl104
      have S105 := S56.step hl104
      refine l_nil ?_
      refine r_seq ?_
      refine r_region ?_
      refine l_m rfl ?_
      refine l_m rfl ?_
      refine l_index EB rfl (vec_rd (S105.at 1 rfl)) rfl rfl Tryz.runUnderlying106 Tryz.sizeOf4 (by omega) hbk ?_
      intro b106 o107 hat108 row109
      refine l_x rfl (x_load rfl (ld_cell Tryz.isAgg4 (row109 0 _ rfl))) ?_
      refine l_x rfl (x_not rfl) ?_
      refine l_m rfl ?_
      refine l_split (d := 122) rfl (fun hg122 => ?_) (fun hg122 => ?_)
      ·skip
       refine l_m rfl ?_
       refine l_m rfl ?_
       refine l_split (d := 124) rfl (fun hg124 => ?_) (fun hg124 => ?_)
       ·skip
        refine l_pass rfl ?_
        refine l_x rfl (x_pick_t rfl rfl) ?_
        refine l_x rfl (x_pick_t rfl rfl) ?_
        refine l_nil ?_
        refine r_true rfl ?_
        refine r_seq ?_
        refine r_region ?_
        refine l_m rfl ?_
        refine l_m rfl ?_
        refine l_index EB rfl (vec_rd (S105.at 1 rfl)) rfl rfl Tryz.runUnderlying106 Tryz.sizeOf4 (by omega) hbk ?_
        intro b110 o111 hat112 row113
        refine l_storevb (f := 0) S105 1 rfl rfl hat112 rfl rfl Tryz.sizeOf4 hbk (by decide) rfl ?_
        intro w114 S115 hk116
        refine l_nil ?_
        refine r_region ?_
        refine l_a rfl ?_
        refine l_nil ?_
        refine r_inBlock ?_
        refine r_region ?_
        refine l_m rfl ?_
        refine l_x rfl (x_add rfl rfl (by omega)) ?_
        refine l_a rfl ?_
        refine l_nil ?_
        have hRk : (restsB (dl rs) (dl rq)) i k = true := by rw [hRR, meet_comm9, hg124, decide_eq_true (by omega : k < i)]; simp
        have hbf : m3[k]? = some false := by rw [hbk]; simpa using hg122
        exact IHd (k + 1, m3.set k true, true) _ _ (by dsimp only; omega) ⟨rfl, rfl, rfl, rfl, rfl, rfl, trivial⟩ ⟨by omega, hM3.set hmi hRk, hP3.set hbf, set_true9 hmi, (S115.take 2)⟩
       refine l_m rfl ?_
       refine l_x rfl (x_pick_f rfl rfl) ?_
       refine l_x rfl (x_pick_t rfl rfl) ?_
       refine l_nil ?_
       refine r_ifd rfl (fun hc127 => ?_) (fun hc127 => ?_)
       ·skip
        refine r_seq ?_
        refine r_region ?_
        refine l_m rfl ?_
        refine l_m rfl ?_
        refine l_index EB rfl (vec_rd (S105.at 1 rfl)) rfl rfl Tryz.runUnderlying106 Tryz.sizeOf4 (by omega) hbk ?_
        intro b117 o118 hat119 row120
        refine l_storevb (f := 0) S105 1 rfl rfl hat119 rfl rfl Tryz.sizeOf4 hbk (by decide) rfl ?_
        intro w121 S122 hk123
        refine l_nil ?_
        refine r_region ?_
        refine l_a rfl ?_
        refine l_nil ?_
        refine r_inBlock ?_
        refine r_region ?_
        refine l_m rfl ?_
        refine l_x rfl (x_add rfl rfl (by omega)) ?_
        refine l_a rfl ?_
        refine l_nil ?_
        have hRk : (restsB (dl rs) (dl rq)) i k = true := by rw [hRR, decide_eq_true (show a.1.kind = 6 ∨ a.1.kind = 7 by omega), decide_eq_true hc127]; rfl
        have hbf : m3[k]? = some false := by rw [hbk]; simpa using hg122
        exact IHd (k + 1, m3.set k true, true) _ _ (by dsimp only; omega) ⟨rfl, rfl, rfl, rfl, rfl, rfl, trivial⟩ ⟨by omega, hM3.set hmi hRk, hP3.set hbf, set_true9 hmi, (S122.take 2)⟩
       refine r_skip ?_
       refine r_inBlock ?_
       refine r_region ?_
       refine l_m rfl ?_
       refine l_x rfl (x_add rfl rfl (by omega)) ?_
       refine l_a rfl ?_
       refine l_nil ?_
       have hRk : (restsB (dl rs) (dl rq)) i k = false := by rw [hRR, decide_eq_false hc127, Bool.and_false, meet_comm9, hg124, Bool.and_false]; rfl
       exact IHd (k + 1, m3, c3) _ _ (by dsimp only; omega) ⟨rfl, rfl, rfl, rfl, rfl, rfl, trivial⟩ ⟨by omega, hM3, hP3.keep (.inr hRk), hmi, (S105.take 2)⟩
      refine l_pass rfl ?_
      refine l_pass rfl ?_
      refine l_pass rfl ?_
      refine l_pass rfl ?_
      refine l_x rfl (x_pick_f rfl rfl) ?_
      refine l_nil ?_
      refine r_false rfl ?_
      refine r_skip ?_
      refine r_inBlock ?_
      refine r_region ?_
      refine l_m rfl ?_
      refine l_x rfl (x_add rfl rfl (by omega)) ?_
      refine l_a rfl ?_
      refine l_nil ?_
      have hbt : m3[k]? = some true := by rw [hbk]; simpa using hg122
      exact IHd (k + 1, m3, c3) _ _ (by dsimp only; omega) ⟨rfl, rfl, rfl, rfl, rfl, rfl, trivial⟩ ⟨by omega, hM3, hP3.keep (.inl hbt), hmi, (S105.take 2)⟩
     refine w_pass rfl ?_
     refine w_pass rfl ?_
     refine w_pass rfl ?_
     refine w_pass rfl ?_
     refine w_pass rfl ?_
     refine w_pass rfl ?_
     refine w_pass rfl ?_
     refine w_pass rfl ?_
     refine w_pass rfl ?_
     refine w_pass rfl ?_
     refine w_pass rfl ?_
     refine w_x rfl (fun w1 h1 => x_pick_f rfl rfl) ?_
     refine w_x rfl (fun w1 h1 => x_as rfl) ?_
     refine w_nil ?_
     intro w124 hl125
     have S126 := S56.step hl125
     refine l_nil ?_
     refine r_seq ?_
     refine r_region ?_
     refine l_m rfl ?_
     refine l_m rfl ?_
     refine l_index EB rfl (vec_rd (S126.at 1 rfl)) rfl rfl Tryz.runUnderlying106 Tryz.sizeOf4 (by omega) hbk ?_
     intro b127 o128 hat129 row130
     refine l_x rfl (x_load rfl (ld_cell Tryz.isAgg4 (row130 0 _ rfl))) ?_
     refine l_x rfl (x_not rfl) ?_
     refine l_m rfl ?_
     refine l_split (d := 122) rfl (fun hg122 => ?_) (fun hg122 => ?_)
     ·skip
      refine l_m rfl ?_
      refine l_m rfl ?_
      refine l_split (d := 124) rfl (fun hg124 => ?_) (fun hg124 => ?_)
      ·skip
       refine l_pass rfl ?_
       refine l_x rfl (x_pick_t rfl rfl) ?_
       refine l_x rfl (x_pick_t rfl rfl) ?_
       refine l_nil ?_
       refine r_true rfl ?_
       refine r_seq ?_
       refine r_region ?_
       refine l_m rfl ?_
       refine l_m rfl ?_
       refine l_index EB rfl (vec_rd (S126.at 1 rfl)) rfl rfl Tryz.runUnderlying106 Tryz.sizeOf4 (by omega) hbk ?_
       intro b131 o132 hat133 row134
       refine l_storevb (f := 0) S126 1 rfl rfl hat133 rfl rfl Tryz.sizeOf4 hbk (by decide) rfl ?_
       intro w135 S136 hk137
       refine l_nil ?_
       refine r_region ?_
       refine l_a rfl ?_
       refine l_nil ?_
       refine r_inBlock ?_
       refine r_region ?_
       refine l_m rfl ?_
       refine l_x rfl (x_add rfl rfl (by omega)) ?_
       refine l_a rfl ?_
       refine l_nil ?_
       have hRk : (restsB (dl rs) (dl rq)) i k = true := by rw [hRR, meet_comm9, hg124, decide_eq_true (by omega : k < i)]; simp
       have hbf : m3[k]? = some false := by rw [hbk]; simpa using hg122
       exact IHd (k + 1, m3.set k true, true) _ _ (by dsimp only; omega) ⟨rfl, rfl, rfl, rfl, rfl, rfl, trivial⟩ ⟨by omega, hM3.set hmi hRk, hP3.set hbf, set_true9 hmi, (S136.take 2)⟩
      refine l_m rfl ?_
      refine l_x rfl (x_pick_f rfl rfl) ?_
      refine l_x rfl (x_pick_t rfl rfl) ?_
      refine l_nil ?_
      refine r_false rfl ?_
      refine r_skip ?_
      refine r_inBlock ?_
      refine r_region ?_
      refine l_m rfl ?_
      refine l_x rfl (x_add rfl rfl (by omega)) ?_
      refine l_a rfl ?_
      refine l_nil ?_
      have hRk : (restsB (dl rs) (dl rq)) i k = false := by rw [hRR, decide_eq_false (by omega : ¬ (a.1.kind = 6 ∨ a.1.kind = 7)), Bool.false_and, meet_comm9, hg124, Bool.and_false]; rfl
      exact IHd (k + 1, m3, c3) _ _ (by dsimp only; omega) ⟨rfl, rfl, rfl, rfl, rfl, rfl, trivial⟩ ⟨by omega, hM3, hP3.keep (.inr hRk), hmi, (S126.take 2)⟩
     refine l_pass rfl ?_
     refine l_pass rfl ?_
     refine l_pass rfl ?_
     refine l_pass rfl ?_
     refine l_x rfl (x_pick_f rfl rfl) ?_
     refine l_nil ?_
     refine r_false rfl ?_
     refine r_skip ?_
     refine r_inBlock ?_
     refine r_region ?_
     refine l_m rfl ?_
     refine l_x rfl (x_add rfl rfl (by omega)) ?_
     refine l_a rfl ?_
     refine l_nil ?_
     have hbt : m3[k]? = some true := by rw [hbk]; simpa using hg122
     exact IHd (k + 1, m3, c3) _ _ (by dsimp only; omega) ⟨rfl, rfl, rfl, rfl, rfl, rfl, trivial⟩ ⟨by omega, hM3, hP3.keep (.inl hbt), hmi, (S126.take 2)⟩
    refine e_exact 4 _ (by kernel_rfl) rfl rfl (by kernel_rfl) rfl (ex_pass rfl) ?_
    refine e_exact 5 _ (by kernel_rfl) rfl rfl (by kernel_rfl) rfl (ex_pass rfl) ?_
    refine e_exact 6 _ (by kernel_rfl) rfl rfl (by kernel_rfl) rfl (ex_pass rfl) ?_
    refine e_exact 7 _ (by kernel_rfl) rfl rfl (by kernel_rfl) rfl (ex_pass rfl) ?_
    refine e_exact 8 _ (by kernel_rfl) rfl rfl (by kernel_rfl) rfl (ex_pass rfl) ?_
    refine e_exact 9 _ (by kernel_rfl) rfl rfl (by kernel_rfl) rfl (ex_pass rfl) ?_
    refine e_exact 10 _ (by kernel_rfl) rfl rfl (by kernel_rfl) rfl (ex_pass rfl) ?_
    refine e_exact 11 _ (by kernel_rfl) rfl rfl (by kernel_rfl) rfl (ex_pass rfl) ?_
    refine e_exact 12 _ (by kernel_rfl) rfl rfl (by kernel_rfl) rfl (ex_pass rfl) ?_
    refine e_exact 13 _ (by kernel_rfl) rfl rfl (by kernel_rfl) rfl (ex_pass rfl) ?_
    refine e_exact 14 _ (by kernel_rfl) rfl rfl (by kernel_rfl) rfl (ex_pass rfl) ?_
    refine e_exact 15 _ (by kernel_rfl) rfl rfl (by kernel_rfl) rfl (ex_pass rfl) ?_
    refine e_exact 16 _ (by kernel_rfl) rfl rfl (by kernel_rfl) rfl (ex_pass rfl) ?_
    refine e_done (by kernel_rfl) ?_
    refine l_x rfl (x_pick_f rfl rfl) ?_
    refine l_a rfl ?_
    refine l_nil ?_
    refine r_seq ?_
    refine r_drawR 28 Tryz.mixed (by kernel_rfl) ?_
    refine w_x rfl (fun w1 h1 => x_mv rfl) ?_
    refine w_x rfl (fun w1 h1 => x_mv rfl) ?_
    refine w_index ED rfl (vec_rd (S44.at 0 rfl)) rfl rfl Tryz.runUnderlying23 Tryz.sizeOf26 (by omega) ha ?_
    intro b138 o139 hat140 row141
    refine w_x rfl (fun w1 h1 => x_fieldAddr rfl Tryz.runUnderlying26 rfl Tryz.sizeOf5 (by decide)) ?_
    refine w_x rfl (fun w1 h1 => x_load rfl (ld_cell Tryz.isAgg5 ((row141.le h1) 3 _ rfl))) ?_
    refine w_x rfl (fun w1 h1 => x_eql rfl rfl) ?_
    refine w_x rfl (fun w1 h1 => x_mv rfl) ?_
    refine w_splitd (d := 96) rfl (fun hg96 => ?_) (fun hg96 => ?_)
    ·skip
     refine w_pass rfl ?_
     refine w_pass rfl ?_
     refine w_pass rfl ?_
     refine w_pass rfl ?_
     refine w_pass rfl ?_
     refine w_pass rfl ?_
     refine w_x rfl (fun w1 h1 => x_pick_t rfl rfl) ?_
     refine w_x rfl (fun w1 h1 => x_mv rfl) ?_
     refine w_x rfl (fun w1 h1 => x_mv rfl) ?_
     refine w_x rfl (fun w1 h1 => x_mv rfl) ?_
     refine w_index ED rfl (vec_rd (S44.at 0 rfl)) rfl rfl Tryz.runUnderlying23 Tryz.sizeOf26 (by omega) hb ?_
     intro b142 o143 hat144 row145
     refine w_x rfl (fun w1 h1 => x_fieldAddr rfl Tryz.runUnderlying26 rfl Tryz.sizeOf3 (by decide)) ?_
     refine w_x rfl (fun w1 h1 => x_load rfl (ld_cell Tryz.isAgg3 ((row145.le h1) 0 _ rfl))) ?_
     refine w_x rfl (fun w1 h1 => x_mv rfl) ?_
     refine w_x rfl (fun w1 h1 => x_mv rfl) ?_
     refine w_index ED rfl (vec_rd (S44.at 0 rfl)) rfl rfl Tryz.runUnderlying23 Tryz.sizeOf26 (by omega) ha ?_
     intro b146 o147 hat148 row149
     refine w_x rfl (fun w1 h1 => x_fieldAddr rfl Tryz.runUnderlying26 rfl Tryz.sizeOf3 (by decide)) ?_
     refine w_x rfl (fun w1 h1 => x_load rfl (ld_cell Tryz.isAgg3 ((row149.le h1) 8 _ rfl))) ?_
     refine w_x rfl (fun w1 h1 => x_eql rfl rfl) ?_
     refine w_x rfl (fun w1 h1 => x_pick_t rfl rfl) ?_
     refine w_x rfl (fun w1 h1 => x_as rfl) ?_
     refine w_nil ?_
     intro w150 hl151
     have S152 := S44.step hl151
     refine l_nil ?_
     refine r_seq ?_
     refine r_region ?_
     refine l_m rfl ?_
     refine l_m rfl ?_
     refine l_index EB rfl (vec_rd (S152.at 1 rfl)) rfl rfl Tryz.runUnderlying106 Tryz.sizeOf4 (by omega) hbk ?_
     intro b153 o154 hat155 row156
     refine l_x rfl (x_load rfl (ld_cell Tryz.isAgg4 (row156 0 _ rfl))) ?_
     refine l_x rfl (x_not rfl) ?_
     refine l_m rfl ?_
     refine l_split (d := 122) rfl (fun hg122 => ?_) (fun hg122 => ?_)
     ·skip
      refine l_m rfl ?_
      refine l_m rfl ?_
      refine l_m rfl ?_
      refine l_x rfl (x_pick_f rfl rfl) ?_
      refine l_x rfl (x_pick_t rfl rfl) ?_
      refine l_nil ?_
      refine r_ifd rfl (fun hc127 => ?_) (fun hc127 => ?_)
      ·skip
       refine r_seq ?_
       refine r_region ?_
       refine l_m rfl ?_
       refine l_m rfl ?_
       refine l_index EB rfl (vec_rd (S152.at 1 rfl)) rfl rfl Tryz.runUnderlying106 Tryz.sizeOf4 (by omega) hbk ?_
       intro b157 o158 hat159 row160
       refine l_storevb (f := 0) S152 1 rfl rfl hat159 rfl rfl Tryz.sizeOf4 hbk (by decide) rfl ?_
       intro w161 S162 hk163
       refine l_nil ?_
       refine r_region ?_
       refine l_a rfl ?_
       refine l_nil ?_
       refine r_inBlock ?_
       refine r_region ?_
       refine l_m rfl ?_
       refine l_x rfl (x_add rfl rfl (by omega)) ?_
       refine l_a rfl ?_
       refine l_nil ?_
       have hRk : (restsB (dl rs) (dl rq)) i k = true := by rw [hRR, decide_eq_true (show a.1.kind = 6 ∨ a.1.kind = 7 by omega), decide_eq_true hc127]; rfl
       have hbf : m3[k]? = some false := by rw [hbk]; simpa using hg122
       exact IHd (k + 1, m3.set k true, true) _ _ (by dsimp only; omega) ⟨rfl, rfl, rfl, rfl, rfl, rfl, trivial⟩ ⟨by omega, hM3.set hmi hRk, hP3.set hbf, set_true9 hmi, (S162.take 2)⟩
      refine r_skip ?_
      refine r_inBlock ?_
      refine r_region ?_
      refine l_m rfl ?_
      refine l_x rfl (x_add rfl rfl (by omega)) ?_
      refine l_a rfl ?_
      refine l_nil ?_
      have hRk : (restsB (dl rs) (dl rq)) i k = false := by rw [hRR, decide_eq_false hc127, Bool.and_false, decide_eq_false (by omega : ¬ k < i), Bool.false_and]; rfl
      exact IHd (k + 1, m3, c3) _ _ (by dsimp only; omega) ⟨rfl, rfl, rfl, rfl, rfl, rfl, trivial⟩ ⟨by omega, hM3, hP3.keep (.inr hRk), hmi, (S152.take 2)⟩
     refine l_pass rfl ?_
     refine l_pass rfl ?_
     refine l_pass rfl ?_
     refine l_pass rfl ?_
     refine l_x rfl (x_pick_f rfl rfl) ?_
     refine l_nil ?_
     refine r_false rfl ?_
     refine r_skip ?_
     refine r_inBlock ?_
     refine r_region ?_
     refine l_m rfl ?_
     refine l_x rfl (x_add rfl rfl (by omega)) ?_
     refine l_a rfl ?_
     refine l_nil ?_
     have hbt : m3[k]? = some true := by rw [hbk]; simpa using hg122
     exact IHd (k + 1, m3, c3) _ _ (by dsimp only; omega) ⟨rfl, rfl, rfl, rfl, rfl, rfl, trivial⟩ ⟨by omega, hM3, hP3.keep (.inl hbt), hmi, (S152.take 2)⟩
    refine w_x rfl (fun w1 h1 => x_mv rfl) ?_
    refine w_x rfl (fun w1 h1 => x_mv rfl) ?_
    refine w_index ED rfl (vec_rd (S44.at 0 rfl)) rfl rfl Tryz.runUnderlying23 Tryz.sizeOf26 (by omega) ha ?_
    intro b164 o165 hat166 row167
    refine w_x rfl (fun w1 h1 => x_fieldAddr rfl Tryz.runUnderlying26 rfl Tryz.sizeOf5 (by decide)) ?_
    refine w_x rfl (fun w1 h1 => x_load rfl (ld_cell Tryz.isAgg5 ((row167.le h1) 3 _ rfl))) ?_
    refine w_x rfl (fun w1 h1 => x_eql rfl rfl) ?_
    refine w_x rfl (fun w1 h1 => x_pick_f rfl rfl) ?_
    refine w_x rfl (fun w1 h1 => x_mv rfl) ?_
    refine w_splitd (d := 104) rfl (fun hg104 => ?_) (fun hg104 => ?_)
    ·skip
     refine w_x rfl (fun w1 h1 => x_mv rfl) ?_
     refine w_x rfl (fun w1 h1 => x_mv rfl) ?_
     refine w_index ED rfl (vec_rd (S44.at 0 rfl)) rfl rfl Tryz.runUnderlying23 Tryz.sizeOf26 (by omega) hb ?_
     intro b168 o169 hat170 row171
     refine w_x rfl (fun w1 h1 => x_fieldAddr rfl Tryz.runUnderlying26 rfl Tryz.sizeOf3 (by decide)) ?_
     refine w_x rfl (fun w1 h1 => x_load rfl (ld_cell Tryz.isAgg3 ((row171.le h1) 0 _ rfl))) ?_
     refine w_x rfl (fun w1 h1 => x_mv rfl) ?_
     refine w_x rfl (fun w1 h1 => x_mv rfl) ?_
     refine w_index ED rfl (vec_rd (S44.at 0 rfl)) rfl rfl Tryz.runUnderlying23 Tryz.sizeOf26 (by omega) ha ?_
     intro b172 o173 hat174 row175
     refine w_x rfl (fun w1 h1 => x_fieldAddr rfl Tryz.runUnderlying26 rfl Tryz.sizeOf3 (by decide)) ?_
     refine w_x rfl (fun w1 h1 => x_load rfl (ld_cell Tryz.isAgg3 ((row175.le h1) 8 _ rfl))) ?_
     refine w_x rfl (fun w1 h1 => x_eql rfl rfl) ?_
     refine w_x rfl (fun w1 h1 => x_pick_t rfl rfl) ?_
     refine w_x rfl (fun w1 h1 => x_as rfl) ?_
     refine w_nil ?_
     intro w176 hl177
     have S178 := S44.step hl177
     refine l_nil ?_
     refine r_seq ?_
     refine r_region ?_
     refine l_m rfl ?_
     refine l_m rfl ?_
     refine l_index EB rfl (vec_rd (S178.at 1 rfl)) rfl rfl Tryz.runUnderlying106 Tryz.sizeOf4 (by omega) hbk ?_
     intro b179 o180 hat181 row182
     refine l_x rfl (x_load rfl (ld_cell Tryz.isAgg4 (row182 0 _ rfl))) ?_
     refine l_x rfl (x_not rfl) ?_
     refine l_m rfl ?_
     refine l_split (d := 122) rfl (fun hg122 => ?_) (fun hg122 => ?_)
     ·skip
      refine l_m rfl ?_
      refine l_m rfl ?_
      refine l_m rfl ?_
      refine l_x rfl (x_pick_f rfl rfl) ?_
      refine l_x rfl (x_pick_t rfl rfl) ?_
      refine l_nil ?_
      refine r_ifd rfl (fun hc127 => ?_) (fun hc127 => ?_)
      ·skip
       refine r_seq ?_
       refine r_region ?_
       refine l_m rfl ?_
       refine l_m rfl ?_
       refine l_index EB rfl (vec_rd (S178.at 1 rfl)) rfl rfl Tryz.runUnderlying106 Tryz.sizeOf4 (by omega) hbk ?_
       intro b183 o184 hat185 row186
       refine l_storevb (f := 0) S178 1 rfl rfl hat185 rfl rfl Tryz.sizeOf4 hbk (by decide) rfl ?_
       intro w187 S188 hk189
       refine l_nil ?_
       refine r_region ?_
       refine l_a rfl ?_
       refine l_nil ?_
       refine r_inBlock ?_
       refine r_region ?_
       refine l_m rfl ?_
       refine l_x rfl (x_add rfl rfl (by omega)) ?_
       refine l_a rfl ?_
       refine l_nil ?_
       have hRk : (restsB (dl rs) (dl rq)) i k = true := by rw [hRR, decide_eq_true (show a.1.kind = 6 ∨ a.1.kind = 7 by omega), decide_eq_true hc127]; rfl
       have hbf : m3[k]? = some false := by rw [hbk]; simpa using hg122
       exact IHd (k + 1, m3.set k true, true) _ _ (by dsimp only; omega) ⟨rfl, rfl, rfl, rfl, rfl, rfl, trivial⟩ ⟨by omega, hM3.set hmi hRk, hP3.set hbf, set_true9 hmi, (S188.take 2)⟩
      refine r_skip ?_
      refine r_inBlock ?_
      refine r_region ?_
      refine l_m rfl ?_
      refine l_x rfl (x_add rfl rfl (by omega)) ?_
      refine l_a rfl ?_
      refine l_nil ?_
      have hRk : (restsB (dl rs) (dl rq)) i k = false := by rw [hRR, decide_eq_false hc127, Bool.and_false, decide_eq_false (by omega : ¬ k < i), Bool.false_and]; rfl
      exact IHd (k + 1, m3, c3) _ _ (by dsimp only; omega) ⟨rfl, rfl, rfl, rfl, rfl, rfl, trivial⟩ ⟨by omega, hM3, hP3.keep (.inr hRk), hmi, (S178.take 2)⟩
     refine l_pass rfl ?_
     refine l_pass rfl ?_
     refine l_pass rfl ?_
     refine l_pass rfl ?_
     refine l_x rfl (x_pick_f rfl rfl) ?_
     refine l_nil ?_
     refine r_false rfl ?_
     refine r_skip ?_
     refine r_inBlock ?_
     refine r_region ?_
     refine l_m rfl ?_
     refine l_x rfl (x_add rfl rfl (by omega)) ?_
     refine l_a rfl ?_
     refine l_nil ?_
     have hbt : m3[k]? = some true := by rw [hbk]; simpa using hg122
     exact IHd (k + 1, m3, c3) _ _ (by dsimp only; omega) ⟨rfl, rfl, rfl, rfl, rfl, rfl, trivial⟩ ⟨by omega, hM3, hP3.keep (.inl hbt), hmi, (S178.take 2)⟩
    refine w_pass rfl ?_
    refine w_pass rfl ?_
    refine w_pass rfl ?_
    refine w_pass rfl ?_
    refine w_pass rfl ?_
    refine w_pass rfl ?_
    refine w_pass rfl ?_
    refine w_pass rfl ?_
    refine w_pass rfl ?_
    refine w_pass rfl ?_
    refine w_pass rfl ?_
    refine w_x rfl (fun w1 h1 => x_pick_f rfl rfl) ?_
    refine w_x rfl (fun w1 h1 => x_as rfl) ?_
    refine w_nil ?_
    intro w190 hl191
    have S192 := S44.step hl191
    refine l_nil ?_
    refine r_seq ?_
    refine r_region ?_
    refine l_m rfl ?_
    refine l_m rfl ?_
    refine l_index EB rfl (vec_rd (S192.at 1 rfl)) rfl rfl Tryz.runUnderlying106 Tryz.sizeOf4 (by omega) hbk ?_
    intro b193 o194 hat195 row196
    refine l_x rfl (x_load rfl (ld_cell Tryz.isAgg4 (row196 0 _ rfl))) ?_
    refine l_x rfl (x_not rfl) ?_
    refine l_m rfl ?_
    refine l_split (d := 122) rfl (fun hg122 => ?_) (fun hg122 => ?_)
    ·skip
     refine l_m rfl ?_
     refine l_m rfl ?_
     refine l_m rfl ?_
     refine l_x rfl (x_pick_f rfl rfl) ?_
     refine l_x rfl (x_pick_t rfl rfl) ?_
     refine l_nil ?_
     refine r_false rfl ?_
     refine r_skip ?_
     refine r_inBlock ?_
     refine r_region ?_
     refine l_m rfl ?_
     refine l_x rfl (x_add rfl rfl (by omega)) ?_
     refine l_a rfl ?_
     refine l_nil ?_
     have hRk : (restsB (dl rs) (dl rq)) i k = false := by rw [hRR, decide_eq_false (by omega : ¬ (a.1.kind = 6 ∨ a.1.kind = 7)), Bool.false_and, decide_eq_false (by omega : ¬ k < i), Bool.false_and]; rfl
     exact IHd (k + 1, m3, c3) _ _ (by dsimp only; omega) ⟨rfl, rfl, rfl, rfl, rfl, rfl, trivial⟩ ⟨by omega, hM3, hP3.keep (.inr hRk), hmi, (S192.take 2)⟩
    refine l_pass rfl ?_
    refine l_pass rfl ?_
    refine l_pass rfl ?_
    refine l_pass rfl ?_
    refine l_x rfl (x_pick_f rfl rfl) ?_
    refine l_nil ?_
    refine r_false rfl ?_
    refine r_skip ?_
    refine r_inBlock ?_
    refine r_region ?_
    refine l_m rfl ?_
    refine l_x rfl (x_add rfl rfl (by omega)) ?_
    refine l_a rfl ?_
    refine l_nil ?_
    have hbt : m3[k]? = some true := by rw [hbk]; simpa using hg122
    exact IHd (k + 1, m3, c3) _ _ (by dsimp only; omega) ⟨rfl, rfl, rfl, rfl, rfl, rfl, trivial⟩ ⟨by omega, hM3, hP3.keep (.inl hbt), hmi, (S192.take 2)⟩
   obtain rfl : k = rq.length := by omega
   refine r_exit rfl ?_
   refine r_inBlock ?_
   refine r_region ?_
   refine l_m rfl ?_
   refine l_x rfl (x_add rfl rfl (by omega)) ?_
   refine l_a rfl ?_
   refine l_nil ?_
   exact IHc (i + 1, m3, c3) _ _ (by dsimp only; omega) ⟨rfl, rfl, rfl, rfl, rfl, trivial⟩ ⟨by omega, hM3, (by rw [← dl_len] at hP3; exact hP3.next), (S1d.take 2)⟩
  obtain rfl : i = rq.length := by omega
  refine r_exit rfl ?_
  refine r_inBlock ?_
  have hdec := pas_dec9 hP (show ch = true from hc54)
  exact IHb (m2, c2) _ _ (by dsimp only; omega) ⟨rfl, rfl, rfl, rfl, trivial⟩ ⟨hM2, (fun h => by subst h; have hP9 := hP; rw [← dl_len] at hP9; exact hP9.closed), (S1c.take 2)⟩
 refine r_exit rfl ?_
 refine r_seq ?_
 refine r_region ?_
 refine l_a rfl ?_
 have S197 := S1b.nilvec (E := EI)
 refine l_nil ?_
 refine r_seq ?_
 refine r_seq ?_
 refine r_region ?_
 refine l_a rfl ?_
 refine l_nil ?_
 refine r_block ?_
 refine r_loop (G := Nat × Value) (fun ⟨i, vo⟩ => rq.length - i) (fun ⟨i, vo⟩ => [(9, v244), (10, v9), (17, vo), (18, .int .i64 i)]) (fun ⟨i, vo⟩ w' => (i ≤ rq.length) ∧ Own nob w w' [vec ED v244 rq, vec EB v9 ms, vec EI vo (mids (dl rq) ms i)]) (0, .slice none 0 0) ⟨rfl, rfl, rfl, rfl, trivial⟩ ⟨Nat.zero_le _, (S197.take 3)⟩ ?_
 rintro ⟨i, vo⟩ ρ w1e ⟨hi, S1e⟩ IHe
 refine r_seq ?_
 refine r_seq ?_
 refine r_region ?_
 refine l_m rfl ?_
 refine l_m rfl ?_
 refine l_x rfl (x_len (vec_rd (S1e.at 0 rfl)) rfl Tryz.runUnderlying23) ?_
 refine l_x rfl (x_lss rfl rfl) ?_
 refine l_nil ?_
 refine r_ifd rfl (fun hc134 => ?_) (fun hc134 => ?_)
 ·skip
  obtain ⟨a, ha⟩ : ∃ x, rq[i]? = some x := ⟨_, List.getElem?_eq_getElem (by omega)⟩
  have hlm := hM.len
  rw [dl_len] at hlm
  obtain ⟨bi, hbi⟩ : ∃ x, ms[i]? = some x := ⟨_, List.getElem?_eq_getElem (by omega)⟩
  have hst9 := mids_step (dl_get ha) hbi
  refine r_skip ?_
  refine r_seq ?_
  refine r_block ?_
  refine r_seq ?_
  refine r_region ?_
  refine l_m rfl ?_
  refine l_m rfl ?_
  refine l_index EB rfl (vec_rd (S1e.at 1 rfl)) rfl rfl Tryz.runUnderlying106 Tryz.sizeOf4 (by omega) hbi ?_
  intro b198 o199 hat200 row201
  refine l_x rfl (x_load rfl (ld_cell Tryz.isAgg4 (row201 0 _ rfl))) ?_
  refine l_nil ?_
  refine r_if rfl (fun hc140 => ?_) (fun hc140 => ?_)
  ·skip
   refine r_region ?_
   refine l_m rfl ?_
   refine l_m rfl ?_
   refine l_m rfl ?_
   refine l_index ED rfl (vec_rd (S1e.at 0 rfl)) rfl rfl Tryz.runUnderlying23 Tryz.sizeOf26 (by omega) ha ?_
   intro b202 o203 hat204 row205
   refine l_x rfl (x_fieldAddr rfl Tryz.runUnderlying26 rfl Tryz.sizeOf3 (by decide)) ?_
   refine l_x rfl (x_load rfl (ld_cell Tryz.isAgg3 (row205 0 _ rfl))) ?_
   refine l_buildSlice EI [a.1.id] S1e rfl Tryz.runUnderlying24 Tryz.sizeOf3 Tryz.zeroValue3 rfl ⟨rfl, rfl, trivial⟩ (Nat.le_of_ble_eq_true rfl) ?_
   intro v209 w206 S207 hl208
   refine l_append EI S207 2 rfl rfl rfl rfl (vec_rd (S207.at 3 rfl)) Tryz.underlying24 info3 rfl rfl rfl (by have := mids_len (c := (dl rq)) (ms := ms) i; unfold maxLen; rw [List.length_singleton]; omega) (by have := mids_len (c := (dl rq)) (ms := ms) i; rw [List.length_singleton]; show _ * 8 ≤ _; omega) ?_
   intro v213 w210 S211 hk212 hv214
   refine l_a rfl ?_
   refine l_nil ?_
   refine r_inBlock ?_
   refine r_region ?_
   refine l_m rfl ?_
   refine l_x rfl (x_add rfl rfl (by omega)) ?_
   refine l_a rfl ?_
   refine l_nil ?_
   exact IHe (i + 1, v213) _ _ (by dsimp only; omega) ⟨rfl, rfl, rfl, rfl, trivial⟩ ⟨by omega, (by rw [hst9, if_pos (by simp_all)]; exact S211.take 3)⟩
  refine r_skip ?_
  refine r_inBlock ?_
  refine r_region ?_
  refine l_m rfl ?_
  refine l_x rfl (x_add rfl rfl (by omega)) ?_
  refine l_a rfl ?_
  refine l_nil ?_
  exact IHe (i + 1, vo) _ _ (by dsimp only; omega) ⟨rfl, rfl, rfl, rfl, trivial⟩ ⟨by omega, (by rw [hst9, if_neg (by simp_all)]; rw [List.append_nil]; exact S1e.take 3)⟩
 obtain rfl : i = rq.length := by omega
 refine r_exit rfl ?_
 refine r_seq ?_
 refine r_region ?_
 refine l_m rfl ?_
 refine l_call [] [] [_] rfl rfl Tryz.call116 rfl (c_rasc (mids (dl rq) ms rq.length) _ (Nat.le_trans (mids_len _) (by omega)) _ (vec_rd (S1e.at 2 rfl))) ?_
 rintro v150215 w215 ⟨hN150215, hl150215⟩
 have S216 := S1e.add hl150215 hN150215
 refine l_a rfl ?_
 refine l_nil ?_
 refine r_ret (rs := [.tmp 8]) [_] Tryz.func74 rfl ⟨rfl, trivial⟩ ?_
 exact ⟨by have hN := S216.new 3 rfl; rw [← dl_len, lin_fin hqq ho9 hM (hcl (by simpa using hc54))] at hN; exact hN, S216.le⟩

end Go.Proofs

namespace Go.Proofs
open Go Go.Vk Go.Vk.Flow

open Go.Vk.Deed
theorem only_dl {rq : List Rw} {is : List Int} : dl (rq.filter fun x => !!is.contains x.1.id) = (dl rq).filter fun x => is.contains x.id := by
 unfold dl; rw [List.filter_map]; congr 1
 exact List.filter_congr fun x _ => by simp

set_option maxHeartbeats 2000000 in
theorem c_DeleteFunc (v0 : Value) (l : List Rw) (p : Rw → Bool) (kf : Nat) (caps : List Value) (hmx : l.length ≤ 9223372036854775807) (w : World) (hA : DsR 26 3 w v0 l) (he : ∀ args w, (callFunc kf args).run Tryz.prog w = .ok (.enter kf args) w)
  (hf : ∀ x ∈ l, ∀ w1, Keep (vec ED v0 l).fp w w1 → Cl Tryz.prog kf ([Value.agg (encD x).toArray] ++ caps).toArray w1 fun v w2 => v = .bool (p x) ∧ Le w1 w2) (S : Own (vec ED v0 l).fp w w [vec ED v0 l]) :
  Cl Tryz.prog 125 #[v0, .func (.func kf) #[] caps.toArray] w fun v w' => Own (vec ED v0 l).fp w w' [vec ED v (l.filter fun x => !p x)] := by
 refine fn_of_run (args := [_, _]) 42 Tryz.func125 rfl rfl rfl fun cs => ?_
 refine r_seq ?_
 refine r_region ?_
 refine l_a rfl ?_
 refine l_nil ?_
 refine r_seq ?_
 refine r_region ?_
 refine l_m rfl ?_
 refine l_m rfl ?_
 refine l_call [] [] [_, _] rfl rfl Tryz.call165 rfl (c_IndexFuncDeed _ l p kf caps hmx _ hA he (fun x hx w1 h1 => hf x hx w1 (S.keep.trans (.of_le h1)))) ?_
 rintro _ w1 ⟨rfl, hl3⟩
 have S2 := S.step hl3
 refine l_a rfl ?_
 refine l_nil ?_
 refine r_seq ?_
 refine r_seq ?_
 refine r_region ?_
 refine l_m rfl ?_
 refine l_x rfl (x_eql rfl rfl) ?_
 refine l_nil ?_
 refine r_ifd rfl (fun hc12 => ?_) (fun hc12 => ?_)
 ·skip
  refine r_seq ?_
  refine r_region ?_
  refine l_m rfl ?_
  refine l_a rfl ?_
  refine l_nil ?_
  refine r_ret (rs := [.tmp 4]) [_] Tryz.func125 rfl ⟨rfl, trivial⟩ ?_
  rw [List.filter_eq_self.2 fun x hx => by simp [idx_neg hc12 x hx]]
  exact S2
 refine r_skip ?_
 refine r_seq ?_
 refine r_seq ?_
 obtain ⟨i0, a0, hi0, ha0, hp0, hn0⟩ := idx_pos hc12
 have hi0l := (List.getElem?_eq_some_iff.1 ha0).1
 refine r_slot 5 (.int .i64 (i0 : Int)) (congrArg (Value.int .i64) hi0) ?_
 refine r_region ?_
 refine l_m rfl ?_
 refine l_x rfl (x_add rfl rfl (by omega)) ?_
 refine l_a rfl ?_
 refine l_nil ?_
 refine r_block ?_
 refine r_loop (G := Nat × Nat × List Rw) (fun ⟨i, j, l1⟩ => l.length - j) (fun ⟨i, j, l1⟩ => [(0, v0), (1, .func (.func kf) #[] caps.toArray), (5, .int .i64 i), (6, .int .i64 j)]) (fun ⟨i, j, l1⟩ w' => (DelInv p l l1 i j) ∧ Own (vec ED v0 l).fp w w' [vec ED v0 l1]) (i0, i0 + 1, l) ⟨rfl, rfl, rfl, rfl, trivial⟩ ⟨DelInv.start ha0 hp0 hn0, (S2.take 1)⟩ ?_
 rintro ⟨i, j, l1⟩ ρ w1 ⟨hI, S1⟩ IH
 refine r_seq ?_
 refine r_seq ?_
 refine r_region ?_
 refine l_m rfl ?_
 refine l_m rfl ?_
 refine l_x rfl (x_len (vec_rd (S1.at 0 rfl)) rfl Tryz.runUnderlying23) ?_
 refine l_x rfl (x_lss rfl rfl) ?_
 refine l_nil ?_
 refine r_ifd rfl (fun hc19 => ?_) (fun hc19 => ?_)
 ·skip
  have hlen := hI.len
  have hle := hI.le
  obtain ⟨a, ha⟩ : ∃ a, l[j]? = some a := ⟨_, List.getElem?_eq_getElem (by omega)⟩
  have ha1 := hI.at ha
  obtain ⟨k1, hk1⟩ : ∃ a, l1[i]? = some a := ⟨_, List.getElem?_eq_getElem (by omega)⟩
  refine r_skip ?_
  refine r_seq ?_
  refine r_block ?_
  refine r_seq ?_
  refine r_region ?_
  refine l_m rfl ?_
  refine l_m rfl ?_
  refine l_index ED rfl (vec_rd (S1.at 0 rfl)) rfl rfl Tryz.runUnderlying23 Tryz.sizeOf26 (by omega) (by first | assumption | exact List.getElem?_eq_getElem (by omega)) ?_
  intro b4 o5 hat6 row7
  refine l_x rfl (x_load rfl (ld_row Tryz.isAgg26 Tryz.sizeOf26 rfl row7)) ?_
  refine l_alloc S1 rfl Tryz.zeroValue26 rfl ?_
  intro b11 w8 S9 hl10
  refine l_stores S9 1 rfl rfl rfl rfl (ED.one _) Tryz.sizeOf26 (by first | exact Nat.le_refl _ | simp) (splice_all rfl) ?_
  intro w12 S13 hk14
  refine l_nil ?_
  refine r_seq ?_
  refine r_region ?_
  refine l_m rfl ?_
  refine l_x rfl (x_load rfl (ld_blks (S13.blk 1 rfl) Tryz.isAgg26 Tryz.sizeOf26 rfl rfl)) ?_
  refine l_call [] caps ([_] ++ caps) rfl rfl he rfl (hf _ (List.mem_of_getElem? ha) _ S13.keep) ?_
  rintro _ w15 ⟨rfl, hl17⟩
  have S16 := S13.step hl17
  refine l_x rfl (x_not rfl) ?_
  refine l_nil ?_
  refine r_if rfl (fun hc29 => ?_) (fun hc29 => ?_)
  ·skip
   have hc29 : p a = false := by simpa using hc29
   refine r_seq ?_
   refine r_region ?_
   refine l_m rfl ?_
   refine l_m rfl ?_
   refine l_x rfl (x_load rfl (ld_blks (S16.blk 1 rfl) Tryz.isAgg26 Tryz.sizeOf26 rfl rfl)) ?_
   refine l_index ED rfl (vec_rd (S16.at 0 rfl)) rfl rfl Tryz.runUnderlying23 Tryz.sizeOf26 (by omega) hk1 ?_
   intro b18 o19 hat20 row21
   refine l_storeva (a' := a) S16 0 rfl rfl hat20 rfl rfl Tryz.sizeOf26 hk1 rfl ?_
   intro w22 S23 hk24
   refine l_nil ?_
   refine r_region ?_
   refine l_m rfl ?_
   refine l_x rfl (x_add rfl rfl (by omega)) ?_
   refine l_a rfl ?_
   refine l_nil ?_
   refine r_inBlock ?_
   refine r_region ?_
   refine l_m rfl ?_
   refine l_x rfl (x_add rfl rfl (by omega)) ?_
   refine l_a rfl ?_
   refine l_nil ?_
   exact IH (i + 1, j + 1, l1.set i a) _ _ (by dsimp only; omega) ⟨rfl, rfl, rfl, rfl, trivial⟩ ⟨hI.keep ha hc29, (S23.take 1)⟩
  have hc29 : p a = true := by simpa using hc29
  refine r_skip ?_
  refine r_inBlock ?_
  refine r_region ?_
  refine l_m rfl ?_
  refine l_x rfl (x_add rfl rfl (by omega)) ?_
  refine l_a rfl ?_
  refine l_nil ?_
  exact IH (i, j + 1, l1) _ _ (by dsimp only; omega) ⟨rfl, rfl, rfl, rfl, trivial⟩ ⟨hI.drop ha hc29, (S16.take 1)⟩
 have hlen := hI.len
 have hle := hI.le
 have hj : j = l.length := by have := hI.lej; omega
 subst hj
 refine r_exit rfl ?_
 refine r_seq ?_
 refine r_region ?_
 refine l_m rfl ?_
 refine l_m rfl ?_
 refine l_tail S1 0 rfl rfl rfl rfl Tryz.runUnderlying23 Tryz.sizeOf26 (by omega) ?_
 intro v25 ht26
 refine l_clearN (a0 := (⟨0, 0, 0, 0, 0, 0, 0, 0, 0, [], []⟩, (none, 0, 0), (none, 0, 0))) S1 0 rfl rfl ht26 rfl Tryz.runUnderlying23 Tryz.zeroValue26 rfl ?_
 intro w27 S28 hk29
 refine l_nil ?_
 refine r_seq ?_
 refine r_region ?_
 refine l_m rfl ?_
 refine l_m rfl ?_
 refine l_prefix S28 0 rfl rfl rfl rfl Tryz.runUnderlying23 Tryz.sizeOf26 (by rw [List.length_append, List.length_take, List.length_replicate]; omega) ?_
 intro v30 S31
 refine l_a rfl ?_
 refine l_nil ?_
 refine r_ret (rs := [.tmp 4]) [_] Tryz.func125 rfl ⟨rfl, trivial⟩ ?_
 have hS := S31.take 1
 rw [Int.toNat_natCast, List.take_append_of_le_length (by rw [List.length_take]; omega), List.take_take, Nat.min_self, hI.done] at hS
 exact hS

set_option maxHeartbeats 4000000 in
theorem c_Only (rs : List Rw) (vl : Value) (known : Int) (day : Int) (is : List Int) (vi : Value) (hmi : is.length ≤ 9223372036854775807) (w : World) (hD : DsR 26 3 w vl rs) (hI : Rd EI w vi is) :
  Cl Tryz.prog 73 #[vl, .int .i64 known, .int .i64 day, vi] w fun v w' => New w w' (vec EAC v (onlyD (dl rs) known day is)) ∧ Le w w' := by
 refine fn_of_run (args := [_, _, _, _]) 23 Tryz.func73 rfl rfl rfl fun cs => ?_
 have S := Own.start (X := nob) w
 refine r_seq ?_
 refine r_region ?_
 refine l_box S rfl (Rd.cells (hI.le S.le)) ?_
 intro b4 w1 S2 hl3
 refine l_a rfl ?_
 refine l_nil ?_
 refine r_seq ?_
 refine r_seq ?_
 refine r_region ?_
 refine l_m rfl ?_
 refine l_call [] [] [_] rfl rfl Tryz.call104 rfl (c_right rs _ _ (hD.le S2.le)) ?_
 rintro _ w5 ⟨rfl, hl7⟩
 have S6 := S2.step hl7
 refine l_x rfl (x_not rfl) ?_
 refine l_nil ?_
 refine r_if rfl (fun hc12 => ?_) (fun hc12 => ?_)
 ·skip
  have hR : rightD (dl rs) = false := by simpa using hc12
  refine r_seq ?_
  refine r_region ?_
  refine l_a rfl ?_
  refine l_nil ?_
  refine r_ret (rs := [.tmp 8]) [_] Tryz.func73 rfl ⟨rfl, trivial⟩ ?_
  exact ⟨by rw [onlyD, if_neg (by simp [hR])]; exact New.nilvec .., S6.le⟩
 have hR : rightD (dl rs) = true := by simpa using hc12
 refine r_skip ?_
 refine r_seq ?_
 refine r_region ?_
 refine l_m rfl ?_
 refine l_m rfl ?_
 refine l_call [] [] [_, _] rfl rfl Tryz.call106 rfl (c_counting rs _ known (right_asc hR) (by have := right_len hR; rw [dl_len] at this; exact this) _ (hD.le S6.le)) ?_
 rintro v158 w8 ⟨rq158, hq158, hm158, hN158, hl158⟩
 have S9 := S6.add hl158 hN158
 have hqq := hq158
 have hmq := hm158
 have hlq : rq158.length ≤ 400 := by rw [← dl_len, hq158]; exact count_len hR
 obtain ⟨rq, hrqe⟩ : ∃ q, q = rq158 := ⟨_, rfl⟩
 subst hrqe
 refine l_x rfl (x_func rfl rfl) ?_
 refine l_call [] [] [_, _] rfl rfl Tryz.call125 rfl (c_DeleteFunc _ _ (fun x => !is.contains x.1.id) 126 [_] (by omega) _ (hD.mem (S9).le (vec_rd ((S9).at 1 rfl)) hmq (by omega)) Tryz.call126 (fun x hx w1 h1 => c_Only1 is vi x _ (by omega) w1 ((S9).beside 1 0 rfl rfl (by decide) h1) (hI.le (h1.old (S9).le (fun c hc => ((S9).bd 1 _ rfl c hc).2.resolve_right id)))) ((S9).lend 1 rfl)) ?_
 rintro v10 w11 hb12
 have S13 := S9.back 1 rfl hb12
 refine l_a rfl ?_
 refine l_nil ?_
 refine r_seq ?_
 have hPl : PlayL (dl (rq.filter fun x => !!is.contains x.1.id)) := by rw [only_dl, hqq]; exact (right_play hR).filter _
 have hBs : StB (doneD (dl (rq.filter fun x => !!is.contains x.1.id)) day) := by rw [done_play]; exact (play_inv _ rfl (hPl.filter _)).stb (hPl.filter _).e (hPl.filter _).len
 refine r_region ?_
 refine l_m rfl ?_
 refine l_m rfl ?_
 refine l_call [] [] [_, _] rfl rfl Tryz.call127 rfl (c_done (rq.filter fun x => !!is.contains x.1.id) _ day hPl _ (hD.mem (S13).le (vec_rd ((S13).at 1 rfl)) (fun a ha => hmq a (List.mem_filter.1 ha).1) (Nat.le_trans (List.length_filter_le _ _) (by omega)))) ?_
 rintro _ w14 ⟨b19, n20, rfl, h18⟩
 have S15 := S13.join h18
 obtain ⟨hs, pf, sf, hok, S16⟩ := Own.rollOpen (A := [_, _]) S15
 have S17 := S16.pack
 refine l_m rfl ?_
 refine l_call [] [] [_, _] rfl rfl Tryz.call118 rfl (c_accounts _ _ _ hs pf sf _ hBs _ (RollRO.mk hok (S17.ro 2 rfl))) ?_
 rintro v2221 w21 ⟨hN2221, hl2221⟩
 have S22 := S17.add hl2221 hN2221
 refine l_a rfl ?_
 refine l_nil ?_
 refine r_ret (rs := [.tmp 8]) [_] Tryz.func73 rfl ⟨rfl, trivial⟩ ?_
 have hN := S22.new 3 rfl
 rw [only_dl, hqq] at hN
 exact ⟨by rw [onlyD, if_pos hR]; exact hN, S22.le⟩

end Go.Proofs
