/- Texts joined for claims: LDays. -/
import Derived.Test.YtdikpjkdbgfoaaaGreatK7867e1294a
/-
  Contracts of functions of the program: each by symbolic execution of its text.
-/
namespace Go.Proofs
open Go Go.Vk Go.Vk.Flow

open Go.Vk.Deed
theorem accs_len (s : St) (day : Int) : (accs s day).length ≤ 40 := by
  have h1 := List.length_filter_le (fun a : Acc => decide (a ≠ ⟨a.owner, 0, 0, 0, 0⟩)) (owners.map fun o => acc s o day)
  rw [List.length_map, owners_len] at h1
  exact h1
theorem ls_len (l : List D) (known day : Int) : (leasesD l known day).length ≤ 400 := by
  unfold leasesD
  rw [List.length_mergeSort, List.length_map]
  exact Nat.le_trans (List.length_filter_le _ _) (on_stb l known day).ll
theorem ps_len (l : List D) (known day : Int) : (pledgesD l known day).length ≤ 400 := by
  unfold pledgesD
  rw [List.length_mergeSort]
  exact (on_stb l known day).pl

set_option maxHeartbeats 4000000 in
/-- couchant/couchantlaw02.DeedDays. -/
theorem lawDays (rs : List Rw) (vl : Value) (a : Rw) (known day : Int) (w : World) (hD : DsR 26 3 w vl rs) (hA : SubR 3 w a) :
    Cl Tryz.prog 17 #[vl, .agg (encD a).toArray, .int .i64 known, .int .i64 day] w fun v w' => v = .bool true ∧ Le w w' := by
  refine fn_of_run (args := [_, _, _, _]) 79 Tryz.func17 rfl rfl rfl fun cs => ?_
  have S := Own.start (X := nob) w
  refine r_seq ?_
  refine r_region ?_
  refine l_box S rfl rfl ?_
  intro b4 w1 S2 hl3
  refine l_x rfl (x_as rfl) ?_
  refine l_nil ?_
  refine r_seq ?_
  refine r_seq ?_
  refine r_region ?_
  refine l_x rfl (x_mv rfl) ?_
  refine l_call [] [] [_] rfl rfl Tryz.call41 rfl (c_valid rs _ _ (hD.le S2.le)) ?_
  rintro _ w5 ⟨rfl, hl7⟩
  have S6 := S2.step hl7
  refine l_x rfl (x_not rfl) ?_
  refine l_x rfl (x_mv rfl) ?_
  refine l_split (d := 14) rfl (fun hg14 => ?_) (fun hg14 => ?_)
  · skip
    refine l_pass rfl ?_
    refine l_pass rfl ?_
    refine l_pass rfl ?_
    refine l_x rfl (x_pick_t rfl rfl) ?_
    refine l_nil ?_
    refine r_true rfl ?_
    refine r_seq ?_
    refine r_region ?_
    refine l_call [] [] [] rfl rfl Tryz.call23 rfl (c_enteredX _) ?_
    rintro _ w8 ⟨rfl, hl10⟩
    have S9 := S6.step hl10
    refine l_x rfl (x_as rfl) ?_
    refine l_nil ?_
    refine r_ret (rs := [.tmp 8]) [_] Tryz.func17 rfl ⟨rfl, trivial⟩ ?_
    exact ⟨rfl, S9.le⟩
  · skip
    have hV : fewB (dl rs) = true ∧ rightD (dl rs) = true := by simpa using hg14
    have hR := hV.2
    refine l_x rfl (x_load rfl (ld_blks (S6.blk 0 rfl) Tryz.isAgg26 Tryz.sizeOf26 rfl rfl)) ?_
    refine l_call [] [] [_] rfl rfl Tryz.call26 rfl (c_plain a _ (hA.le S6.le)) ?_
    rintro _ w11 ⟨rfl, hl13⟩
    have S12 := S6.step hl13
    refine l_x rfl (x_not rfl) ?_
    refine l_x rfl (x_pick_f rfl rfl) ?_
    refine l_nil ?_
    refine r_if rfl (fun hc18 => ?_) (fun hc18 => ?_)
    · skip
      refine r_seq ?_
      refine r_region ?_
      refine l_call [] [] [] rfl rfl Tryz.call23 rfl (c_enteredX _) ?_
      rintro _ w14 ⟨rfl, hl16⟩
      have S15 := S12.step hl16
      refine l_x rfl (x_as rfl) ?_
      refine l_nil ?_
      refine r_ret (rs := [.tmp 8]) [_] Tryz.func17 rfl ⟨rfl, trivial⟩ ?_
      exact ⟨rfl, S15.le⟩
    · skip
      refine r_skip ?_
      refine r_seq ?_
      refine r_region ?_
      refine l_x rfl (x_mv rfl) ?_
      refine l_x rfl (x_load rfl (ld_blks (S12.blk 0 rfl) Tryz.isAgg26 Tryz.sizeOf26 rfl rfl)) ?_
      refine l_call [] [] [_, _] rfl rfl Tryz.call42 rfl (c_Append rs vl a _ (hD.le S12.le) (hA.le S12.le)) ?_
      rintro _ w17 ⟨s1, rs1, e1, rfl, he1, hrs1, h19⟩
      have S18 := S12.join h19
      refine l_x rfl (x_mv rfl) ?_
      refine l_x rfl (x_extract rfl rfl) ?_
      refine l_x rfl (x_extract rfl rfl) ?_
      refine l_x rfl (x_as rfl) ?_
      refine l_x rfl (x_as rfl) ?_
      refine l_nil ?_
      refine r_seq ?_
      refine r_seq ?_
      refine r_region ?_
      refine l_x rfl (x_mv rfl) ?_
      refine l_x rfl (x_neq rfl rfl) ?_
      refine l_x rfl (x_mv rfl) ?_
      refine l_splitd (d := 28) rfl (fun hg28 => ?_) (fun hg28 => ?_)
      · skip
        refine l_pass rfl ?_
        refine l_pass rfl ?_
        refine l_pass rfl ?_
        refine l_pass rfl ?_
        refine l_pass rfl ?_
        refine l_pass rfl ?_
        refine l_pass rfl ?_
        refine l_pass rfl ?_
        refine l_pass rfl ?_
        refine l_pass rfl ?_
        refine l_pass rfl ?_
        refine l_pass rfl ?_
        refine l_pass rfl ?_
        refine l_pass rfl ?_
        refine l_pass rfl ?_
        refine l_x rfl (x_pick_t rfl rfl) ?_
        refine l_nil ?_
        refine r_true rfl ?_
        refine r_seq ?_
        refine r_region ?_
        refine l_call [] [] [] rfl rfl Tryz.call23 rfl (c_enteredX _) ?_
        rintro _ w20 ⟨rfl, hl22⟩
        have S21 := S18.step hl22
        refine l_x rfl (x_as rfl) ?_
        refine l_nil ?_
        refine r_ret (rs := [.tmp 8]) [_] Tryz.func17 rfl ⟨rfl, trivial⟩ ?_
        exact ⟨rfl, S21.le⟩
      · skip
        have he0 := Decidable.not_not.1 hg28
        have h0 := he1.symm.trans he0
        have hh1 := app_dl h0 hrs1 (fun x hx => ⟨(hD.sub x hx).hm, (hD.sub x hx).sm⟩) ⟨hA.hm, hA.sm⟩
        have hm1 : dl rs1 = dl rs ++ [a.1] := hrs1.trans (append_ok h0)
        refine l_x rfl (x_fieldAddr rfl Tryz.runUnderlying26 rfl Tryz.sizeOf3 (by decide)) ?_
        refine l_x rfl (x_load rfl (ld_blk (S18.blk 0 rfl) Tryz.isAgg3 rfl)) ?_
        refine l_x rfl (x_mv rfl) ?_
        refine l_x rfl (x_leq rfl rfl) ?_
        refine l_x rfl (x_mv rfl) ?_
        refine l_splitd (d := 33) rfl (fun hg33 => ?_) (fun hg33 => ?_)
        · skip
          refine l_x rfl (x_fieldAddr rfl Tryz.runUnderlying26 rfl Tryz.sizeOf5 (by decide)) ?_
          refine l_x rfl (x_load rfl (ld_blk (S18.blk 0 rfl) Tryz.isAgg5 rfl)) ?_
          refine l_x rfl (x_eql rfl rfl) ?_
          refine l_x rfl (x_mv rfl) ?_
          refine l_splitd (d := 37) rfl (fun hg37 => ?_) (fun hg37 => ?_)
          · skip
            refine l_pass rfl ?_
            refine l_pass rfl ?_
            refine l_pass rfl ?_
            refine l_pass rfl ?_
            refine l_x rfl (x_pick_t rfl rfl) ?_
            refine l_x rfl (x_pick_t rfl rfl) ?_
            refine l_x rfl (x_pick_f rfl rfl) ?_
            refine l_nil ?_
            refine r_true rfl ?_
            refine r_seq ?_
            refine r_region ?_
            refine l_call [] [] [] rfl rfl Tryz.call23 rfl (c_enteredX _) ?_
            rintro _ w23 ⟨rfl, hl25⟩
            have S24 := S18.step hl25
            refine l_x rfl (x_as rfl) ?_
            refine l_nil ?_
            refine r_ret (rs := [.tmp 8]) [_] Tryz.func17 rfl ⟨rfl, trivial⟩ ?_
            exact ⟨rfl, S24.le⟩
          · skip
            refine l_x rfl (x_fieldAddr rfl Tryz.runUnderlying26 rfl Tryz.sizeOf3 (by decide)) ?_
            refine l_x rfl (x_load rfl (ld_blk (S18.blk 0 rfl) Tryz.isAgg3 rfl)) ?_
            refine l_x rfl (x_mv rfl) ?_
            refine l_x rfl (x_leq rfl rfl) ?_
            refine l_x rfl (x_pick_f rfl rfl) ?_
            refine l_x rfl (x_pick_t rfl rfl) ?_
            refine l_x rfl (x_pick_f rfl rfl) ?_
            refine l_nil ?_
            refine r_ifd rfl (fun hc44 => ?_) (fun hc44 => ?_)
            · skip
              refine r_seq ?_
              refine r_region ?_
              refine l_call [] [] [] rfl rfl Tryz.call23 rfl (c_enteredX _) ?_
              rintro _ w26 ⟨rfl, hl28⟩
              have S27 := S18.step hl28
              refine l_x rfl (x_as rfl) ?_
              refine l_nil ?_
              refine r_ret (rs := [.tmp 8]) [_] Tryz.func17 rfl ⟨rfl, trivial⟩ ?_
              exact ⟨rfl, S27.le⟩
            · skip
              refine r_skip ?_
              refine r_seq ?_
              refine r_seq ?_
              have hon : onD (dl rs1) known day = onD (dl rs) known day := by rw [hm1]; exact on_later h0 (by omega)
              refine r_region ?_
              refine l_x rfl (x_mv rfl) ?_
              refine l_x rfl (x_mv rfl) ?_
              refine l_x rfl (x_mv rfl) ?_
              refine l_call [] [] [_, _, _] rfl rfl Tryz.call61 rfl (c_Accounts rs vl known day _ (hD.le S18.le)) ?_
              rintro v4929 w29 ⟨hN4929, hl4929⟩
              have S30 := S18.add hl4929 hN4929
              refine l_x rfl (x_mv rfl) ?_
              refine l_x rfl (x_mv rfl) ?_
              refine l_x rfl (x_mv rfl) ?_
              refine l_call [] [] [_, _, _] rfl rfl Tryz.call61 rfl (c_Accounts rs1 s1 known day _ (dnest_dsr (S30.at 1 rfl) (S30.at 2 rfl) hh1.1 (by have := hh1.2; omega))) ?_
              rintro v5331 w31 ⟨hN5331, hl5331⟩
              have S32 := S30.add hl5331 hN5331
              refine l_call [] [] [_, _] rfl rfl Tryz.call60 rfl ((c_SameAccounts _ _ _ _ (by have := accs_len (onD (dl rs) known day) day; omega) _ (vec_rd (S32.at 3 rfl)) (vec_rd (S32.at 4 rfl))).mono (fun v w' h => (⟨h.1.trans (congrArg Value.bool (decide_eq_true (by rw [hon]))), h.2⟩ : v = .bool true ∧ Le _ w'))) ?_
              rintro _ w33 ⟨rfl, hl35⟩
              have S34 := S32.step hl35
              refine l_x rfl (x_not rfl) ?_
              refine l_nil ?_
              refine r_false rfl ?_
              refine r_skip ?_
              refine r_seq ?_
              refine r_region ?_
              refine l_call [] [] [] rfl rfl Tryz.call23 rfl (c_enteredX _) ?_
              rintro _ w36 ⟨rfl, hl38⟩
              have S37 := S34.step hl38
              refine l_x rfl (x_mv rfl) ?_
              refine l_x rfl (x_mv rfl) ?_
              refine l_x rfl (x_mv rfl) ?_
              refine l_x rfl (x_mv rfl) ?_
              refine l_call [] [] [_, _, _] rfl rfl Tryz.call68 rfl (c_Leases rs vl known day _ (hD.le S37.le)) ?_
              rintro v6139 w39 ⟨hN6139, hl6139⟩
              have S40 := S37.add hl6139 hN6139
              refine l_x rfl (x_mv rfl) ?_
              refine l_x rfl (x_mv rfl) ?_
              refine l_x rfl (x_mv rfl) ?_
              refine l_call [] [] [_, _, _] rfl rfl Tryz.call68 rfl (c_Leases rs1 s1 known day _ (dnest_dsr (S40.at 1 rfl) (S40.at 2 rfl) hh1.1 (by have := hh1.2; omega))) ?_
              rintro v6541 w41 ⟨hN6541, hl6541⟩
              have S42 := S40.add hl6541 hN6541
              refine l_call [] [] [_, _] rfl rfl Tryz.call67 rfl ((c_SameLeases _ _ _ _ (by have := ls_len (dl rs) known day; omega) _ (vec_rd (S42.at 5 rfl)) (vec_rd (S42.at 6 rfl))).mono (fun v w' h => (⟨h.1.trans (congrArg Value.bool (decide_eq_true (by unfold leasesD; rw [hon]))), h.2⟩ : v = .bool true ∧ Le _ w'))) ?_
              rintro _ w43 ⟨rfl, hl45⟩
              have S44 := S42.step hl45
              refine l_x rfl (x_pick_t rfl rfl) ?_
              refine l_x rfl (x_mv rfl) ?_
              refine l_x rfl (x_mv rfl) ?_
              refine l_x rfl (x_mv rfl) ?_
              refine l_x rfl (x_mv rfl) ?_
              refine l_call [] [] [_, _, _] rfl rfl Tryz.call71 rfl (c_Pledges rs vl known day _ (hD.le S44.le)) ?_
              rintro v7246 w46 ⟨hN7246, hl7246⟩
              have S47 := S44.add hl7246 hN7246
              refine l_x rfl (x_mv rfl) ?_
              refine l_x rfl (x_mv rfl) ?_
              refine l_x rfl (x_mv rfl) ?_
              refine l_call [] [] [_, _, _] rfl rfl Tryz.call71 rfl (c_Pledges rs1 s1 known day _ (dnest_dsr (S47.at 1 rfl) (S47.at 2 rfl) hh1.1 (by have := hh1.2; omega))) ?_
              rintro v7648 w48 ⟨hN7648, hl7648⟩
              have S49 := S47.add hl7648 hN7648
              refine l_call [] [] [_, _] rfl rfl Tryz.call70 rfl ((c_SamePledges _ _ _ _ (by have := ps_len (dl rs) known day; omega) _ (vec_rd (S49.at 7 rfl)) (vec_rd (S49.at 8 rfl))).mono (fun v w' h => (⟨h.1.trans (congrArg Value.bool (decide_eq_true (by unfold pledgesD; rw [hon]))), h.2⟩ : v = .bool true ∧ Le _ w'))) ?_
              rintro _ w50 ⟨rfl, hl52⟩
              have S51 := S49.step hl52
              refine l_x rfl (x_pick_t rfl rfl) ?_
              refine l_x rfl (x_as rfl) ?_
              refine l_nil ?_
              refine r_ret (rs := [.tmp 8]) [_] Tryz.func17 rfl ⟨rfl, trivial⟩ ?_
              exact ⟨rfl, S51.le⟩
        · skip
          refine l_pass rfl ?_
          refine l_pass rfl ?_
          refine l_pass rfl ?_
          refine l_pass rfl ?_
          refine l_pass rfl ?_
          refine l_pass rfl ?_
          refine l_pass rfl ?_
          refine l_pass rfl ?_
          refine l_pass rfl ?_
          refine l_x rfl (x_pick_f rfl rfl) ?_
          refine l_x rfl (x_pick_f rfl rfl) ?_
          refine l_nil ?_
          refine r_false rfl ?_
          refine r_skip ?_
          refine r_seq ?_
          refine r_seq ?_
          have hon : onD (dl rs1) known day = onD (dl rs) known day := by rw [hm1]; exact on_later h0 (by omega)
          refine r_region ?_
          refine l_x rfl (x_mv rfl) ?_
          refine l_x rfl (x_mv rfl) ?_
          refine l_x rfl (x_mv rfl) ?_
          refine l_call [] [] [_, _, _] rfl rfl Tryz.call61 rfl (c_Accounts rs vl known day _ (hD.le S18.le)) ?_
          rintro v4953 w53 ⟨hN4953, hl4953⟩
          have S54 := S18.add hl4953 hN4953
          refine l_x rfl (x_mv rfl) ?_
          refine l_x rfl (x_mv rfl) ?_
          refine l_x rfl (x_mv rfl) ?_
          refine l_call [] [] [_, _, _] rfl rfl Tryz.call61 rfl (c_Accounts rs1 s1 known day _ (dnest_dsr (S54.at 1 rfl) (S54.at 2 rfl) hh1.1 (by have := hh1.2; omega))) ?_
          rintro v5355 w55 ⟨hN5355, hl5355⟩
          have S56 := S54.add hl5355 hN5355
          refine l_call [] [] [_, _] rfl rfl Tryz.call60 rfl ((c_SameAccounts _ _ _ _ (by have := accs_len (onD (dl rs) known day) day; omega) _ (vec_rd (S56.at 3 rfl)) (vec_rd (S56.at 4 rfl))).mono (fun v w' h => (⟨h.1.trans (congrArg Value.bool (decide_eq_true (by rw [hon]))), h.2⟩ : v = .bool true ∧ Le _ w'))) ?_
          rintro _ w57 ⟨rfl, hl59⟩
          have S58 := S56.step hl59
          refine l_x rfl (x_not rfl) ?_
          refine l_nil ?_
          refine r_false rfl ?_
          refine r_skip ?_
          refine r_seq ?_
          refine r_region ?_
          refine l_call [] [] [] rfl rfl Tryz.call23 rfl (c_enteredX _) ?_
          rintro _ w60 ⟨rfl, hl62⟩
          have S61 := S58.step hl62
          refine l_x rfl (x_mv rfl) ?_
          refine l_x rfl (x_mv rfl) ?_
          refine l_x rfl (x_mv rfl) ?_
          refine l_x rfl (x_mv rfl) ?_
          refine l_call [] [] [_, _, _] rfl rfl Tryz.call68 rfl (c_Leases rs vl known day _ (hD.le S61.le)) ?_
          rintro v6163 w63 ⟨hN6163, hl6163⟩
          have S64 := S61.add hl6163 hN6163
          refine l_x rfl (x_mv rfl) ?_
          refine l_x rfl (x_mv rfl) ?_
          refine l_x rfl (x_mv rfl) ?_
          refine l_call [] [] [_, _, _] rfl rfl Tryz.call68 rfl (c_Leases rs1 s1 known day _ (dnest_dsr (S64.at 1 rfl) (S64.at 2 rfl) hh1.1 (by have := hh1.2; omega))) ?_
          rintro v6565 w65 ⟨hN6565, hl6565⟩
          have S66 := S64.add hl6565 hN6565
          refine l_call [] [] [_, _] rfl rfl Tryz.call67 rfl ((c_SameLeases _ _ _ _ (by have := ls_len (dl rs) known day; omega) _ (vec_rd (S66.at 5 rfl)) (vec_rd (S66.at 6 rfl))).mono (fun v w' h => (⟨h.1.trans (congrArg Value.bool (decide_eq_true (by unfold leasesD; rw [hon]))), h.2⟩ : v = .bool true ∧ Le _ w'))) ?_
          rintro _ w67 ⟨rfl, hl69⟩
          have S68 := S66.step hl69
          refine l_x rfl (x_pick_t rfl rfl) ?_
          refine l_x rfl (x_mv rfl) ?_
          refine l_x rfl (x_mv rfl) ?_
          refine l_x rfl (x_mv rfl) ?_
          refine l_x rfl (x_mv rfl) ?_
          refine l_call [] [] [_, _, _] rfl rfl Tryz.call71 rfl (c_Pledges rs vl known day _ (hD.le S68.le)) ?_
          rintro v7270 w70 ⟨hN7270, hl7270⟩
          have S71 := S68.add hl7270 hN7270
          refine l_x rfl (x_mv rfl) ?_
          refine l_x rfl (x_mv rfl) ?_
          refine l_x rfl (x_mv rfl) ?_
          refine l_call [] [] [_, _, _] rfl rfl Tryz.call71 rfl (c_Pledges rs1 s1 known day _ (dnest_dsr (S71.at 1 rfl) (S71.at 2 rfl) hh1.1 (by have := hh1.2; omega))) ?_
          rintro v7672 w72 ⟨hN7672, hl7672⟩
          have S73 := S71.add hl7672 hN7672
          refine l_call [] [] [_, _] rfl rfl Tryz.call70 rfl ((c_SamePledges _ _ _ _ (by have := ps_len (dl rs) known day; omega) _ (vec_rd (S73.at 7 rfl)) (vec_rd (S73.at 8 rfl))).mono (fun v w' h => (⟨h.1.trans (congrArg Value.bool (decide_eq_true (by unfold pledgesD; rw [hon]))), h.2⟩ : v = .bool true ∧ Le _ w'))) ?_
          rintro _ w74 ⟨rfl, hl76⟩
          have S75 := S73.step hl76
          refine l_x rfl (x_pick_t rfl rfl) ?_
          refine l_x rfl (x_as rfl) ?_
          refine l_nil ?_
          refine r_ret (rs := [.tmp 8]) [_] Tryz.func17 rfl ⟨rfl, trivial⟩ ?_
          exact ⟨rfl, S75.le⟩

end Go.Proofs
