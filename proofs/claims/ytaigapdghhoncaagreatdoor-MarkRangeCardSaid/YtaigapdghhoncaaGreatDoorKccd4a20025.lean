/- Texts joined for claims: G10. -/
import Derived.Test.YtaigapdghhoncaaGreatDoorKcac6ed5128
import Derived.Test.YtaigapdghhoncaaGreatDoorK19644418ce
import Derived.Test.YtaigapdghhoncaaGreatDoorK8babc024e2
set_option linter.unusedVariables false
set_option linter.unusedSimpArgs false
set_option linter.unusedSectionVars false
/-
  Contracts of functions of the program: each by symbolic execution of its text.
-/
namespace Go.Proofs
open Go Go.Vk Go.Vk.Flow

open Go.Vk.Mark
open Go.Vk.Deed (i64 rng rng_iff owners sumI sumI_cons sumI_snoc)
open Go.Vk.Deed (cmpI)

theorem c_AssignB (b : Sm) (vm vf : Value) (day : Int) (found : List Sg) (vs : Value) (cs9 : List Clm) (vq : Value) (hm : found.length ≤ 9223372036854775807) (hmc : cs9.length ≤ 9223372036854775807) (hsg : ∀ t ∈ found, SgOk t) (cz : List Clm) (hb : beginE b day true found cs9 = 0) (hp : cz.Perm cs9) (hs : SortedL (fun x y : Clm => cmpI x.owner y.owner) cz) (w : World) (hB : SmR 39 41 w vm vf b) (hF : Rd ESG w vs found) (hC : Rd ECL w vq cs9) : Cl Tryz.prog 27 #[.agg #[vm, vf], Value.int .i64 day, vs, vq] w fun v w' => ∃ s, v = .tuple #[s, .bool (canB cz (cnz b day found cz)), .int .i64 0] ∧ Le w w' :=
  (c_Assign b vm vf day found vs cs9 vq hm hmc hsg w hB hF hC).mono fun v w' h => by
    rcases h with ⟨e', hn, rfl, he', hl⟩ | ⟨cz', hb', hp', hs', hc, rfl, hl⟩ | ⟨cz', s, hb', hp', hs', hc, rfl, hN, hl⟩
    · exact absurd (he'.trans hb) hn
    · have e := one_cz hb hp hs hp' hs'
      subst e
      rw [hc]; exact ⟨_, rfl, hl⟩
    have e := one_cz hb hp hs hp' hs'
    subst e
    rw [hc]; exact ⟨_, rfl, hl⟩
theorem c_AssignT (b : Sm) (vm vf : Value) (day : Int) (found : List Sg) (vs : Value) (cs9 : List Clm) (vq : Value) (hm : found.length ≤ 9223372036854775807) (hmc : cs9.length ≤ 9223372036854775807) (hsg : ∀ t ∈ found, SgOk t) (cz : List Clm) (hb : beginE b day true found cs9 = 0) (hp : cz.Perm cs9) (hs : SortedL (fun x y : Clm => cmpI x.owner y.owner) cz) (hc : canB cz (cnz b day found cz) = true) (w : World) (hB : SmR 39 41 w vm vf b) (hF : Rd ESG w vs found) (hC : Rd ECL w vq cs9) : Cl Tryz.prog 27 #[.agg #[vm, vf], Value.int .i64 day, vs, vq] w fun v w' => ∃ s, v = .tuple #[s, .bool true, .int .i64 0] ∧ New w w' (vec EI s (asg (mks b day found cz) cz (cnz b day found cz))) ∧ Le w w' :=
  (c_Assign b vm vf day found vs cs9 vq hm hmc hsg w hB hF hC).mono fun v w' h => by
    rcases h with ⟨e', hn, rfl, he', hl⟩ | ⟨cz', hb', hp', hs', hc', rfl, hl⟩ | ⟨cz', s, hb', hp', hs', hc', rfl, hN, hl⟩
    · exact absurd (he'.trans hb) hn
    · have e := one_cz hb hp hs hp' hs'
      subst e
      rw [hc] at hc'; cases hc'
    have e := one_cz hb hp hs hp' hs'
    subst e
    exact ⟨s, rfl, hN, hl⟩

theorem claim_bd {b : Sm} {day : Int} {found : List Sg} {cs : List Clm} {c : Clm} {k : Nat} (h : beginE b day true found cs = 0) (hc : cs[k]? = some c) : 0 ≤ c.number ∧ c.number ≤ 60 := by
  have := (claim_ok (begin_parts h).2.2).2.1 c (List.mem_of_getElem? hc)
  unfold claimB at this
  rw [Bool.and_eq_true, Go.Vk.Deed.rng_iff] at this
  exact this.2

set_option maxHeartbeats 4000000 in
/-- couchant/couchantlaw03.without. -/
theorem c_without (b : Sm) (vm vf : Value) (day : Int) (found : List Sg) (vs : Value) (cs9 : List Clm) (vq : Value) (hm : found.length ≤ 9223372036854775807) (hmc : cs9.length ≤ 9223372036854775807) (hsg : ∀ t ∈ found, SgOk t) (cz : List Clm) (hb : beginE b day true found cs9 = 0) (hp : cz.Perm cs9) (hs : SortedL (fun x y : Clm => cmpI x.owner y.owner) cz) (i : Nat) (o : Int) (t : Sg) (ht : found[i]? = some t) (hw : ∃ k, k < cz.length + 1 ∧ tryB cz (cnz b day found cz) (mskP cz (ownersOf b day t)) k = true ∧ ownK cz k ≠ o) (w : World) (hB : SmR 39 41 w vm vf b) (hF : Rd ESG w vs found) (hC : Rd ECL w vq cs9) :
    Cl Tryz.prog 49 #[.agg #[vm, vf], Value.int .i64 day, vs, vq, Value.int .i64 i, Value.int .i64 o] w fun v w' => v = .bool true ∧ Le w w' := by
  have hil := (List.getElem?_eq_some_iff.1 ht).1
  have hf60 := bench_len hb
  have hcl := (claim_ok (begin_parts hb).2.2).1
  have hap := begin_apart hb
  have htm := List.mem_of_getElem? ht
  have hsg2 : ∀ q ∈ found.take i ++ found.drop (i + 1), SgOk q := fun q hq => hsg q (by rw [rest_eq] at hq; exact List.mem_of_mem_eraseIdx hq)
  refine fn_of_run (args := [_, _, _, _, _, _]) 117 Tryz.func49 rfl rfl rfl fun cs => ?_
  have S := Own.start (X := nob) w
  refine r_seq ?_
  refine r_region ?_
  refine l_box S rfl rfl ?_
  intro b4 w1 S2 hl3
  refine l_x rfl (x_as rfl) ?_
  refine l_nil ?_
  refine r_seq ?_
  refine r_drawE 10 (yng w1) Tryz.mixed (by kernel_rfl) ?_
  intro w5 hl6
  have S7 := S2.step hl6
  have hy8 : Keep (yng w1) w1 w5 := .of_le hl6
  refine e_exact 1 _ (by kernel_rfl) rfl rfl (by kernel_rfl) rfl (ex_x rfl (fun w1 h1 => x_mv rfl)) ?_
  refine e_exact 2 _ (by kernel_rfl) rfl rfl (by kernel_rfl) rfl (ex_x rfl (fun w1 h1 => x_mv rfl)) ?_
  refine e_exact 3 _ (by kernel_rfl) rfl rfl (by kernel_rfl) rfl (ex_x rfl (fun w1 h1 => x_mv rfl)) ?_
  refine e_headmF 4 (by kernel_rfl) rfl rfl (by kernel_rfl) rfl rfl (hF.le S7.le) rfl rfl rfl Tryz.runUnderlying50 Tryz.sizeOf30 (by omega) ?_
  intro v9 ht10
  refine e_exact 6 _ (by kernel_rfl) rfl rfl (by kernel_rfl) rfl (ex_x rfl (fun w1 h1 => x_mv rfl)) ?_
  refine e_exact 7 _ (by kernel_rfl) rfl rfl (by kernel_rfl) rfl (ex_x rfl (fun w1 h1 => x_mv rfl)) ?_
  refine e_exact 8 _ (by kernel_rfl) rfl rfl (by kernel_rfl) rfl (ex_x rfl (fun w1 h1 => x_add rfl rfl (by omega))) ?_
  refine e_tailR 9 (by kernel_rfl) rfl rfl (by kernel_rfl) rfl rfl (hF.le S7.le) rfl rfl Tryz.runUnderlying50 Tryz.sizeOf30 (by omega) ?_
  intro v11 ht12
  refine e_next [0] (by kernel_rfl) (by kernel_rfl) ⟨⟨_, _, rfl, rfl, ?_⟩, trivial⟩
  refine s_buildSlice ESG [] (Own.start (X := nob) w5) rfl Tryz.runUnderlying50 Tryz.sizeOf30 Tryz.zeroValue30 rfl trivial (by decide) ?_
  intro v17 w13 S14 hl16
  have hn18 := S14.new 0 rfl
  have S15 := S7.add hl16 hn18
  refine ⟨.of_le hl16, ?_⟩
  have hyb19 : ∀ c, (vec ESG v17 []).fp c → yng w1 c := fun c hc => Nat.le_trans hy8.size (hn18.bd c hc).1
  have hy20 : Keep (yng w1) w1 w13 := hy8.trans (Keep.of_le hl16)
  refine e_next [5] (by kernel_rfl) (by kernel_rfl) ⟨⟨_, _, rfl, rfl, ?_⟩, trivial⟩
  refine s_append ESG (S15.lend 1 rfl) 0 rfl rfl rfl rfl (ht10 _ (hF.le S15.le)) Tryz.underlying50 info30 rfl rfl rfl (by unfold maxLen; simp; omega) (by simp; show _ * 6 ≤ _; omega) ?_
  intro v25 w21 S22 hk24 hv26
  have S23 := S15.back 1 rfl S22
  have hyb27 : ∀ c, (vec ESG v25 []).fp c → yng w1 c := fun c hc => (S22.bd 0 _ rfl c hc).2.elim (fun h => Nat.le_trans hy20.size h) (hyb19 c)
  refine ⟨hk24.mono fun c _ hc => hyb19 c hc, ?_⟩
  have hy28 : Keep (yng w1) w1 w21 := hy20.trans (hk24.mono fun c _ hc => hyb19 c hc)
  refine e_done (by kernel_rfl) ?_
  refine l_append ESG S23 1 rfl rfl rfl rfl (tailR_rd ht12 (hF.le S23.le)) Tryz.underlying50 info30 rfl rfl rfl (by unfold maxLen; simp; omega) (by simp; show _ * 6 ≤ _; omega) ?_
  intro v32 w29 S30 hk31 hv33
  refine l_x rfl (x_as rfl) ?_
  refine l_nil ?_
  refine r_seq ?_
  refine r_region ?_
  refine l_x rfl (x_load rfl (ld_blks (S30.blk 0 rfl) Tryz.isAgg25 Tryz.sizeOf25 rfl rfl)) ?_
  refine l_x rfl (x_mv rfl) ?_
  refine l_x rfl (x_mv rfl) ?_
  refine l_x rfl (x_mv rfl) ?_
  refine l_call [] [] [_, _, _, _] rfl rfl Tryz.call27 rfl (c_AssignB b vm vf day (found.take i ++ found.drop (i + 1)) _ cs9 vq (by simp; omega) hmc hsg2 cz (begin_rest hb) hp hs _ (hB.le S30.le) (vec_rd (S30.at 1 rfl)) (hC.le S30.le)) ?_
  rintro _ w34 ⟨s3734, rfl, hl3734⟩
  have S35 := S30.step hl3734
  refine l_x rfl (x_mv rfl) ?_
  refine l_x rfl (x_extract rfl rfl) ?_
  refine l_x rfl (x_extract rfl rfl) ?_
  refine l_x rfl (x_extract rfl rfl) ?_
  refine l_x rfl (x_as rfl) ?_
  refine l_x rfl (x_as rfl) ?_
  refine l_x rfl (x_as rfl) ?_
  refine l_nil ?_
  refine r_seq ?_
  refine r_seq ?_
  refine r_region ?_
  refine l_x rfl (x_mv rfl) ?_
  refine l_x rfl (x_eql rfl rfl) ?_
  refine l_x rfl (x_mv rfl) ?_
  refine l_splitd (d := 43) rfl (fun hg43 => ?_) (fun hg43 => ?_)
  · skip
    refine l_x rfl (x_mv rfl) ?_
    refine l_x rfl (x_pick_t rfl rfl) ?_
    refine l_nil ?_
    refine r_if rfl (fun hc45 => ?_) (fun hc45 => ?_)
    · skip
      refine r_seq ?_
      refine r_region ?_
      refine l_x rfl (x_as rfl) ?_
      refine l_nil ?_
      refine r_ret (rs := [.tmp 12]) [_] Tryz.func49 rfl ⟨rfl, trivial⟩ ?_
      exact ⟨rfl, S35.le⟩
    have hcr : canB cz (cnz b day (found.take i ++ found.drop (i + 1)) cz) = false := by simpa using hc45
    refine r_skip ?_
    refine r_seq ?_
    refine r_seq ?_
    refine r_region ?_
    refine l_x rfl (x_as rfl) ?_
    refine l_nil ?_
    refine r_block ?_
    refine r_loop (G := Nat) (fun k => cs9.length - k) (fun k => [(1, Value.int .i64 day), (2, vs), (3, vq), (4, Value.int .i64 i), (5, Value.int .i64 o), (6, .pointer (some ⟨b4, 0, none⟩)), (13, v32), (17, Value.int .i64 k)]) (fun k w' => (k ≤ cs9.length) ∧ (∀ q x, q < k → cs9[q]? = some x → ¬ good9 b day found cz i t o x) ∧ Own nob w w' [blk b4 [vm, vf] 25, vec ESG v32 (found.take i ++ found.drop (i + 1))]) 0 ⟨rfl, rfl, rfl, rfl, rfl, rfl, rfl, rfl, trivial⟩ ⟨Nat.zero_le _, fun q x h => absurd h (Nat.not_lt_zero q), (S35.pick [0, 1] (by decide) rfl)⟩ ?_
    rintro k ρ w1 ⟨hk, hq, S1⟩ IH
    refine r_seq ?_
    refine r_seq ?_
    refine r_region ?_
    refine l_x rfl (x_mv rfl) ?_
    refine l_x rfl (x_mv rfl) ?_
    refine l_x rfl (x_len (hC.le S1.le) rfl Tryz.runUnderlying51) ?_
    refine l_x rfl (x_lss rfl rfl) ?_
    refine l_nil ?_
    refine r_ifd rfl (fun hc49 => ?_) (fun hc49 => ?_)
    · skip
      obtain ⟨c, hc⟩ : ∃ c, cs9[k]? = some c := ⟨_, List.getElem?_eq_getElem (by omega)⟩
      have hfe := fits_claim hb htm (List.mem_of_getElem? hc)
      have hfv := fits_claimV hb htm (List.mem_of_getElem? hc)
      have hcb := claim_bd hb hc
      refine r_skip ?_
      refine r_seq ?_
      refine r_block ?_
      refine r_seq ?_
      refine r_drawR 17 Tryz.mixed (by kernel_rfl) ?_
      refine w_x rfl (fun w1 h1 => x_load rfl (ld_blks ((S1.step h1).blk 0 rfl) Tryz.isAgg25 Tryz.sizeOf25 rfl rfl)) ?_
      refine w_x rfl (fun w1 h1 => x_mv rfl) ?_
      refine w_x rfl (fun w1 h1 => x_mv rfl) ?_
      refine w_x rfl (fun w1 h1 => x_mv rfl) ?_
      refine w_index ESG rfl (hF.le S1.le) rfl rfl Tryz.runUnderlying50 Tryz.sizeOf30 (by omega) ht ?_
      intro b36 o37 hat38 row39
      refine w_x rfl (fun w1 h1 => x_load rfl (ld_row Tryz.isAgg30 Tryz.sizeOf30 rfl (row39.le h1))) ?_
      refine w_x rfl (fun w1 h1 => x_mv rfl) ?_
      refine w_x rfl (fun w1 h1 => x_mv rfl) ?_
      refine w_index ECL rfl (hC.le S1.le) rfl rfl Tryz.runUnderlying51 Tryz.sizeOf83 (by omega) hc ?_
      intro b40 o41 hat42 row43
      refine w_x rfl (fun w1 h1 => x_fieldAddr rfl Tryz.runUnderlying83 rfl Tryz.sizeOf3 (by decide)) ?_
      refine w_x rfl (fun w1 h1 => x_load rfl (ld_cell Tryz.isAgg3 ((row43.le h1) 0 _ rfl))) ?_
      refine wd_call [] [] [_, _, _, _] rfl rfl Tryz.call23 rfl (fun w1 h1 => c_Fits b vm vf day c.owner t (hsg t htm) _ (hB.le (S1.step h1).le)) ?_
      refine w_x rfl (fun w1 h1 => x_mv rfl) ?_
      refine w_x rfl (fun w1 h1 => x_extract rfl rfl) ?_
      refine w_x rfl (fun w1 h1 => x_extract rfl rfl) ?_
      refine w_x rfl (fun w1 h1 => x_as rfl) ?_
      refine w_x rfl (fun w1 h1 => x_as rfl) ?_
      refine w_nil ?_
      intro w44 hl45
      have S46 := S1.step hl45
      refine l_nil ?_
      refine r_seq ?_
      refine r_seq ?_
      refine r_region ?_
      refine l_x rfl (x_mv rfl) ?_
      refine l_x rfl (x_mv rfl) ?_
      refine l_index ECL rfl (hC.le S46.le) rfl rfl Tryz.runUnderlying51 Tryz.sizeOf83 (by omega) hc ?_
      intro b47 o48 hat49 row50
      refine l_x rfl (x_fieldAddr rfl Tryz.runUnderlying83 rfl Tryz.sizeOf3 (by decide)) ?_
      refine l_x rfl (x_load rfl (ld_cell Tryz.isAgg3 (row50 0 _ rfl))) ?_
      refine l_x rfl (x_mv rfl) ?_
      refine l_x rfl (x_eql rfl rfl) ?_
      refine l_x rfl (x_mv rfl) ?_
      refine l_splitd (d := 74) rfl (fun hg74 => ?_) (fun hg74 => ?_)
      · skip
        refine l_pass rfl ?_
        refine l_pass rfl ?_
        refine l_pass rfl ?_
        refine l_pass rfl ?_
        refine l_pass rfl ?_
        refine l_pass rfl ?_
        refine l_x rfl (x_pick_t rfl rfl) ?_
        refine l_x rfl (x_mv rfl) ?_
        refine l_pass rfl ?_
        refine l_pass rfl ?_
        refine l_x rfl (x_pick_t rfl rfl) ?_
        refine l_x rfl (x_mv rfl) ?_
        refine l_pass rfl ?_
        refine l_pass rfl ?_
        refine l_x rfl (x_pick_t rfl rfl) ?_
        refine l_nil ?_
        refine r_true rfl ?_
        refine r_exit rfl ?_
        refine r_region ?_
        refine l_x rfl (x_mv rfl) ?_
        refine l_x rfl (x_add rfl rfl (by omega)) ?_
        refine l_x rfl (x_as rfl) ?_
        refine l_nil ?_
        exact IH (k + 1) _ _ (by omega) ⟨rfl, rfl, rfl, rfl, rfl, rfl, rfl, rfl, trivial⟩ ⟨by omega, good_step (f := fun _ x => good9 b day found cz i t o x) hq hc (fun h => h.1 hg74), (S46.take 2)⟩
      refine l_x rfl (x_mv rfl) ?_
      refine l_x rfl (x_mv rfl) ?_
      refine l_index ECL rfl (hC.le S46.le) rfl rfl Tryz.runUnderlying51 Tryz.sizeOf83 (by omega) hc ?_
      intro b51 o52 hat53 row54
      refine l_x rfl (x_fieldAddr rfl Tryz.runUnderlying83 rfl Tryz.sizeOf3 (by decide)) ?_
      refine l_x rfl (x_load rfl (ld_cell Tryz.isAgg3 (row54 1 _ rfl))) ?_
      refine l_x rfl (x_lss rfl rfl) ?_
      refine l_x rfl (x_pick_f rfl rfl) ?_
      refine l_x rfl (x_mv rfl) ?_
      refine l_splitd (d := 82) rfl (fun hg82 => ?_) (fun hg82 => ?_)
      · skip
        refine l_pass rfl ?_
        refine l_pass rfl ?_
        refine l_x rfl (x_pick_t rfl rfl) ?_
        refine l_x rfl (x_mv rfl) ?_
        refine l_pass rfl ?_
        refine l_pass rfl ?_
        refine l_x rfl (x_pick_t rfl rfl) ?_
        refine l_nil ?_
        refine r_true rfl ?_
        refine r_exit rfl ?_
        refine r_region ?_
        refine l_x rfl (x_mv rfl) ?_
        refine l_x rfl (x_add rfl rfl (by omega)) ?_
        refine l_x rfl (x_as rfl) ?_
        refine l_nil ?_
        exact IH (k + 1) _ _ (by omega) ⟨rfl, rfl, rfl, rfl, rfl, rfl, rfl, rfl, trivial⟩ ⟨by omega, good_step (f := fun _ x => good9 b day found cz i t o x) hq hc (fun h => by have := h.2.1; omega), (S46.take 2)⟩
      refine l_x rfl (x_mv rfl) ?_
      refine l_x rfl (x_not rfl) ?_
      refine l_x rfl (x_pick_f rfl rfl) ?_
      refine l_x rfl (x_mv rfl) ?_
      refine l_split (d := 86) rfl (fun hg86 => ?_) (fun hg86 => ?_)
      · skip
        refine l_pass rfl ?_
        refine l_pass rfl ?_
        refine l_x rfl (x_pick_t rfl rfl) ?_
        refine l_nil ?_
        refine r_true rfl ?_
        refine r_exit rfl ?_
        refine r_region ?_
        refine l_x rfl (x_mv rfl) ?_
        refine l_x rfl (x_add rfl rfl (by omega)) ?_
        refine l_x rfl (x_as rfl) ?_
        refine l_nil ?_
        exact IH (k + 1) _ _ (by omega) ⟨rfl, rfl, rfl, rfl, rfl, rfl, rfl, rfl, trivial⟩ ⟨by omega, good_step (f := fun _ x => good9 b day found cz i t o x) hq hc (fun h => by have h2 := h.2.2.1; simp_all), (S46.take 2)⟩
      refine l_x rfl (x_mv rfl) ?_
      refine l_x rfl (x_neq rfl rfl) ?_
      refine l_x rfl (x_pick_f rfl rfl) ?_
      refine l_nil ?_
      refine r_ifd rfl (fun hc89 => ?_) (fun hc89 => ?_)
      · skip
        refine r_exit rfl ?_
        refine r_region ?_
        refine l_x rfl (x_mv rfl) ?_
        refine l_x rfl (x_add rfl rfl (by omega)) ?_
        refine l_x rfl (x_as rfl) ?_
        refine l_nil ?_
        exact IH (k + 1) _ _ (by omega) ⟨rfl, rfl, rfl, rfl, rfl, rfl, rfl, rfl, trivial⟩ ⟨by omega, good_step (f := fun _ x => good9 b day found cz i t o x) hq hc (fun h => hc89 hfe), (S46.take 2)⟩
      refine r_skip ?_
      refine r_seq ?_
      have hcn : 1 ≤ c.number := by omega
      refine r_region ?_
      refine l_buildSlice ECL [] S46 rfl Tryz.runUnderlying51 Tryz.sizeOf83 Tryz.zeroValue83 rfl trivial (Nat.le_of_ble_eq_true rfl) ?_
      intro v58 w55 S56 hl57
      refine l_x rfl (x_mv rfl) ?_
      refine l_append ECL S56 2 rfl rfl rfl rfl (hC.le S56.le) Tryz.underlying51 info83 rfl rfl rfl (by unfold maxLen; rw [List.length_nil]; omega) (by rw [List.length_nil]; show _ * 16 ≤ _; omega) ?_
      intro v62 w59 S60 hk61 hv63
      refine l_x rfl (x_as rfl) ?_
      refine l_nil ?_
      refine r_seq ?_
      refine r_region ?_
      refine l_x rfl (x_mv rfl) ?_
      refine l_x rfl (x_mv rfl) ?_
      refine l_x rfl (x_mv rfl) ?_
      refine l_x rfl (x_mv rfl) ?_
      refine l_index ECL rfl (vec_rd (S60.at 2 rfl)) rfl rfl Tryz.runUnderlying51 Tryz.sizeOf83 (by omega) (by first | assumption | exact List.getElem?_eq_getElem (by omega)) ?_
      intro b64 o65 hat66 row67
      refine l_x rfl (x_fieldAddr rfl Tryz.runUnderlying83 rfl Tryz.sizeOf3 (by decide)) ?_
      refine l_x rfl (x_load rfl (ld_cell Tryz.isAgg3 (row67 1 _ rfl))) ?_
      refine l_x rfl (x_sub rfl rfl (by omega)) ?_
      refine l_index ECL rfl (vec_rd (S60.at 2 rfl)) rfl rfl Tryz.runUnderlying51 Tryz.sizeOf83 (by omega) (by first | assumption | exact List.getElem?_eq_getElem (by omega)) ?_
      intro b68 o69 hat70 row71
      refine l_x rfl (x_fieldAddr rfl Tryz.runUnderlying83 rfl Tryz.sizeOf3 (by decide)) ?_
      refine l_storevi (a' := ⟨c.owner, c.number - 1⟩) (f := 1) S60 2 rfl rfl hat70 rfl rfl Tryz.sizeOf3 hc (by decide) rfl ?_
      intro w72 S73 hk74
      refine l_nil ?_
      refine r_seq ?_
      refine r_region ?_
      refine l_x rfl (x_load rfl (ld_blks (S73.blk 0 rfl) Tryz.isAgg25 Tryz.sizeOf25 rfl rfl)) ?_
      refine l_x rfl (x_mv rfl) ?_
      refine l_x rfl (x_mv rfl) ?_
      refine l_x rfl (x_mv rfl) ?_
      refine l_call [] [] [_, _, _, _] rfl rfl Tryz.call27 rfl (c_AssignB b vm vf day (found.take i ++ found.drop (i + 1)) _ (cs9.set k ⟨c.owner, c.number - 1⟩) _ (by simp; omega) (by simp; omega) hsg2 (lessC cz c.owner) (begin_less (begin_rest hb) hc hcn) (less_perm hp hap hc) (less_sorted hs) _ (hB.le S73.le) (vec_rd (S73.at 1 rfl)) (vec_rd (S73.at 2 rfl))) ?_
      rintro _ w75 ⟨s10875, rfl, hl10875⟩
      have S76 := S73.step hl10875
      refine l_x rfl (x_mv rfl) ?_
      refine l_x rfl (x_extract rfl rfl) ?_
      refine l_x rfl (x_extract rfl rfl) ?_
      refine l_x rfl (x_extract rfl rfl) ?_
      refine l_x rfl (x_as rfl) ?_
      refine l_x rfl (x_as rfl) ?_
      refine l_nil ?_
      refine r_seq ?_
      refine r_region ?_
      refine l_x rfl (x_mv rfl) ?_
      refine l_x rfl (x_eql rfl rfl) ?_
      refine l_x rfl (x_mv rfl) ?_
      refine l_splitd (d := 114) rfl (fun hg114 => ?_) (fun hg114 => ?_)
      · skip
        refine l_x rfl (x_mv rfl) ?_
        refine l_x rfl (x_pick_t rfl rfl) ?_
        refine l_nil ?_
        refine r_if rfl (fun hc116 => ?_) (fun hc116 => ?_)
        · skip
          refine r_seq ?_
          refine r_region ?_
          refine l_x rfl (x_as rfl) ?_
          refine l_nil ?_
          refine r_ret (rs := [.tmp 12]) [_] Tryz.func49 rfl ⟨rfl, trivial⟩ ?_
          exact ⟨rfl, S76.le⟩
        refine r_skip ?_
        refine r_inBlock ?_
        refine r_region ?_
        refine l_x rfl (x_mv rfl) ?_
        refine l_x rfl (x_add rfl rfl (by omega)) ?_
        refine l_x rfl (x_as rfl) ?_
        refine l_nil ?_
        exact IH (k + 1) _ _ (by omega) ⟨rfl, rfl, rfl, rfl, rfl, rfl, rfl, rfl, trivial⟩ ⟨by omega, good_step (f := fun _ x => good9 b day found cz i t o x) hq hc (fun h => by have h2 := h.2.2.2; simp_all), (S76.take 2)⟩
      exact absurd rfl hg114
    obtain rfl : k = cs9.length := by omega
    refine r_exit rfl ?_
    refine r_seq ?_
    refine r_region ?_
    refine l_x rfl (x_as rfl) ?_
    refine l_nil ?_
    refine r_ret (rs := [.tmp 12]) [_] Tryz.func49 rfl ⟨rfl, trivial⟩ ?_
    exact (wt_end hb hp ht hcr hq hw).elim
  exact absurd rfl hg43

end Go.Proofs
