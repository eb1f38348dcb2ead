/- Texts joined for claims: G2, G3. -/
import Derived.Test.YtdikpjkdbgfoaaaGreatKf341d88362
import Derived.Test.YtdikpjkdbgfoaaaGreatK1a32e5e6f2
/-
  Contracts of functions of the program: each by symbolic execution of its text.
-/
namespace Go.Proofs
open Go Go.Vk Go.Vk.Flow

open Go.Vk.Deed
theorem formed_ofs {x : D} (h : formed x = true) (k : x.kind = 6 ∨ x.kind = 7 ∨ x.kind = 8) : 1 ≤ x.of ∧ x.of < x.id := by
  rw [formed_ref, Bool.and_eq_true] at h
  have h6 := h.2
  unfold fR6 at h6
  rw [Bool.and_eq_true, if_pos k, decide_eq_true_iff] at h6
  exact h6.2
theorem chk_tuple {l : List D} {i : Nat} {x : D} {e : Int} (hx : l[i]? = some x) (h0 : ∀ j, j < i → chkAt l j = 0) (hf : follows (l.take i) x = e) (he : e ≠ 0) : chkD l = ((i : Int), e) := by
  have h1 := chkAt_get hx
  rw [hf] at h1
  rw [chk_at (List.getElem?_eq_some_iff.1 hx).1 h0 (by rw [h1]; exact he), h1]

set_option maxHeartbeats 4000000 in
/-- couchant/couchantref02.Check. -/
theorem c_rCheck (rs : List Rw) (vl : Value) (w : World) (hD : DsR 26 3 w vl rs) :
    Cl Tryz.prog 22 #[vl] w fun v w' => v = .tuple #[.int .i64 (chkD (dl rs)).1, .int .i64 (chkD (dl rs)).2] ∧ Le w w' := by
  have hml := hD.lm
  refine fn_of_run (args := [_]) 64 Tryz.func22 rfl rfl rfl fun cs => ?_
  have S := Own.start (X := nob) w
  refine r_seq ?_
  refine r_region ?_
  refine l_x rfl (x_as rfl) ?_
  refine l_x rfl (x_as rfl) ?_
  refine l_nil ?_
  refine r_seq ?_
  refine r_region ?_
  refine l_x rfl (x_as rfl) ?_
  refine l_nil ?_
  refine r_seq ?_
  refine r_seq ?_
  refine r_region ?_
  refine l_x rfl (x_as rfl) ?_
  refine l_nil ?_
  refine r_block ?_
  refine r_loop (G := Nat) (fun i => rs.length - i) (fun i => [(0, vl), (4, .int .i64 (enters ((dl rs).take i))), (5, .int .i64 i)]) (fun i w' => (i ≤ rs.length) ∧ (∀ j, j < i → chkAt (dl rs) j = 0) ∧ (0 ≤ enters ((dl rs).take i) ∧ enters ((dl rs).take i) ≤ 1000000000) ∧ Own nob w w' []) 0 ⟨rfl, rfl, rfl, trivial⟩ ⟨Nat.zero_le _, (fun j h => absurd h (Nat.not_lt_zero j)), (by simp [enters, sumI]), (S.take 0)⟩ ?_
  rintro i ρ w1 ⟨hi, h0, heb, S1⟩ IH
  refine r_seq ?_
  refine r_seq ?_
  refine r_region ?_
  refine l_x rfl (x_mv rfl) ?_
  refine l_x rfl (x_mv rfl) ?_
  refine l_x rfl (x_len (hD.rd.le S1.le) rfl Tryz.runUnderlying23) ?_
  refine l_x rfl (x_lss rfl rfl) ?_
  refine l_nil ?_
  refine r_ifd rfl (fun hc10 => ?_) (fun hc10 => ?_)
  · skip
    obtain ⟨a, ha⟩ : ∃ a, rs[i]? = some a := ⟨_, List.getElem?_eq_getElem (by omega)⟩
    have ham := List.mem_of_getElem? ha
    have htl : ((dl rs).take i).length = i := by rw [List.length_take, dl_len]; omega
    refine r_skip ?_
    refine r_seq ?_
    refine r_block ?_
    refine r_seq ?_
    refine r_region ?_
    refine l_x rfl (x_mv rfl) ?_
    refine l_x rfl (x_mv rfl) ?_
    refine l_index ED rfl (hD.rd.le S1.le) rfl rfl Tryz.runUnderlying23 Tryz.sizeOf26 (by omega) ha ?_
    intro b1 o2 hat3 row4
    refine l_x rfl (x_load rfl (ld_row Tryz.isAgg26 Tryz.sizeOf26 rfl row4)) ?_
    refine l_alloc S1 rfl Tryz.zeroValue26 rfl ?_
    intro b8 w5 S6 hl7
    refine l_stores (vs := [_, _, _, _, _, _, _, _, _, _, _]) S6 0 rfl rfl rfl rfl (ones_cons rfl (ones_cons rfl (ones_cons rfl (ones_cons rfl (ones_cons rfl (ones_cons rfl (ones_cons rfl (ones_cons rfl (ones_cons rfl (ones_cons (Rd.one ((hD.sub _ ham).1.le S6.le)) (ones_cons (Rd.one ((hD.sub _ ham).2.le S6.le)) ones_nil))))))))))) Tryz.sizeOf26 (by first | exact Nat.le_refl _ | simp) (splice_all rfl) ?_
    intro w9 S10 hk11
    refine l_nil ?_
    refine r_seq ?_
    refine r_seq ?_
    refine r_region ?_
    refine l_x rfl (x_mv rfl) ?_
    refine l_x rfl (x_geq rfl rfl) ?_
    refine l_nil ?_
    refine r_ifd rfl (fun hc18 => ?_) (fun hc18 => ?_)
    · skip
      refine r_seq ?_
      refine r_region ?_
      refine l_x rfl (x_mv rfl) ?_
      refine l_x rfl (x_as rfl) ?_
      refine l_x rfl (x_as rfl) ?_
      refine l_nil ?_
      refine r_ret (rs := [.tmp 2, .tmp 3]) [_, _] Tryz.func22 rfl ⟨rfl, rfl, trivial⟩ ?_
      exact ⟨by show Value.tuple #[.int .i64 (i : Int), .int .i64 2] = _; rw [chk_tuple (dl_get ha) h0 (fol_full (by rw [List.length_take, dl_len]; omega)) (show (2 : Int) ≠ 0 by decide)], S10.le⟩
    refine r_skip ?_
    refine r_seq ?_
    refine r_seq ?_
    refine r_region ?_
    refine l_x rfl (x_load rfl (ld_blks (S10.blk 0 rfl) Tryz.isAgg26 Tryz.sizeOf26 rfl rfl)) ?_
    refine l_call [] [] [_] rfl rfl Tryz.call48 rfl (c_rCheckDeed a _ ((hD.sub a ham).le S10.le)) ?_
    rintro _ w12 ⟨rfl, hl14⟩
    have S13 := S10.step hl14
    refine l_x rfl (x_neq rfl rfl) ?_
    refine l_x rfl (x_mv rfl) ?_
    refine l_splitd (d := 23) rfl (fun hg23 => ?_) (fun hg23 => ?_)
    · skip
      refine l_pass rfl ?_
      refine l_pass rfl ?_
      refine l_pass rfl ?_
      refine l_pass rfl ?_
      refine l_pass rfl ?_
      refine l_x rfl (x_pick_t rfl rfl) ?_
      refine l_nil ?_
      refine r_true rfl ?_
      refine r_seq ?_
      refine r_region ?_
      refine l_x rfl (x_mv rfl) ?_
      refine l_x rfl (x_as rfl) ?_
      refine l_x rfl (x_as rfl) ?_
      refine l_nil ?_
      refine r_ret (rs := [.tmp 2, .tmp 3]) [_, _] Tryz.func22 rfl ⟨rfl, rfl, trivial⟩ ?_
      exact ⟨by show Value.tuple #[.int .i64 (i : Int), .int .i64 1] = _; rw [chk_tuple (dl_get ha) h0 (fol_form (by rw [List.length_take, dl_len]; omega) (.inl (by cases h9 : formed a.1 with | false => rfl | true => rw [h9] at hg23; exact absurd rfl hg23))) (show (1 : Int) ≠ 0 by decide)], S13.le⟩
    refine l_x rfl (x_fieldAddr rfl Tryz.runUnderlying26 rfl Tryz.sizeOf3 (by decide)) ?_
    refine l_x rfl (x_load rfl (ld_blk (S13.blk 0 rfl) Tryz.isAgg3 rfl)) ?_
    refine l_x rfl (x_mv rfl) ?_
    refine l_x rfl (x_add rfl rfl (by omega)) ?_
    refine l_x rfl (x_neq rfl rfl) ?_
    refine l_x rfl (x_pick_f rfl rfl) ?_
    refine l_nil ?_
    refine r_ifd rfl (fun hc29 => ?_) (fun hc29 => ?_)
    · skip
      refine r_seq ?_
      refine r_region ?_
      refine l_x rfl (x_mv rfl) ?_
      refine l_x rfl (x_as rfl) ?_
      refine l_x rfl (x_as rfl) ?_
      refine l_nil ?_
      refine r_ret (rs := [.tmp 2, .tmp 3]) [_, _] Tryz.func22 rfl ⟨rfl, rfl, trivial⟩ ?_
      exact ⟨by show Value.tuple #[.int .i64 (i : Int), .int .i64 1] = _; rw [chk_tuple (dl_get ha) h0 (fol_form (by rw [List.length_take, dl_len]; omega) (.inr (by rw [htl]; omega))) (show (1 : Int) ≠ 0 by decide)], S13.le⟩
    have hfo : formed a.1 = true := Classical.byContradiction fun h => by have h9 := Decidable.not_not.1 hg23; rw [if_neg h] at h9; exact absurd h9 (by decide)
    have hid : a.1.id = ((dl rs).take i).length + 1 := by rw [htl]; omega
    refine r_skip ?_
    refine r_seq ?_
    refine r_seq ?_
    refine r_drawR 13 Tryz.mixed (by kernel_rfl) ?_
    refine w_x rfl (fun w1 h1 => x_mv rfl) ?_
    refine w_x rfl (fun w1 h1 => x_gtr rfl rfl) ?_
    refine w_x rfl (fun w1 h1 => x_mv rfl) ?_
    refine w_splitd (d := 33) rfl (fun hg33 => ?_) (fun hg33 => ?_)
    · skip
      obtain ⟨y, hy⟩ : ∃ y, rs[i - 1]? = some y := ⟨_, List.getElem?_eq_getElem (by omega)⟩
      refine w_x rfl (fun w1 h1 => x_fieldAddr rfl Tryz.runUnderlying26 rfl Tryz.sizeOf3 (by decide)) ?_
      refine w_x rfl (fun w1 h1 => x_load rfl (ld_blk ((S13.step h1).blk 0 rfl) Tryz.isAgg3 rfl)) ?_
      refine w_x rfl (fun w1 h1 => x_mv rfl) ?_
      refine w_x rfl (fun w1 h1 => x_mv rfl) ?_
      refine w_x rfl (fun w1 h1 => x_sub rfl rfl (by omega)) ?_
      refine w_index ED rfl (hD.rd.le S13.le) rfl rfl Tryz.runUnderlying23 Tryz.sizeOf26 (by omega) (by rw [show ((i : Int) - 1).toNat = i - 1 by omega]; exact hy) ?_
      intro b15 o16 hat17 row18
      refine w_x rfl (fun w1 h1 => x_fieldAddr rfl Tryz.runUnderlying26 rfl Tryz.sizeOf3 (by decide)) ?_
      refine w_x rfl (fun w1 h1 => x_load rfl (ld_cell Tryz.isAgg3 ((row18.le h1) 2 _ rfl))) ?_
      refine w_x rfl (fun w1 h1 => x_lss rfl rfl) ?_
      refine w_x rfl (fun w1 h1 => x_pick_t rfl rfl) ?_
      refine w_nil ?_
      intro w19 hl20
      have S21 := S13.step hl20
      refine l_nil ?_
      refine r_ifd rfl (fun hc43 => ?_) (fun hc43 => ?_)
      · skip
        refine r_seq ?_
        refine r_region ?_
        refine l_x rfl (x_mv rfl) ?_
        refine l_x rfl (x_as rfl) ?_
        refine l_x rfl (x_as rfl) ?_
        refine l_nil ?_
        refine r_ret (rs := [.tmp 2, .tmp 3]) [_, _] Tryz.func22 rfl ⟨rfl, rfl, trivial⟩ ?_
        exact ⟨by show Value.tuple #[.int .i64 (i : Int), .int .i64 7] = _; rw [chk_tuple (dl_get ha) h0 (fol_time (by rw [List.length_take, dl_len]; omega) hfo hid (y := y.1) (j := i - 1) (by rw [List.getElem?_take, if_pos (by omega)]; exact dl_get hy) (by omega) hc43) (show (7 : Int) ≠ 0 by decide)], S21.le⟩
      refine r_skip ?_
      refine r_seq ?_
      refine r_seq ?_
      have htm : lateB ((dl rs).take i) a.1 = false := by rw [← dl_take]; exact fol_last (rs := rs.take i) (by rw [List.length_take, Nat.min_eq_left (by omega), List.getElem?_take, if_pos (by omega)]; exact hy) hc43
      refine r_drawE 7 (yng w19) Tryz.mixed (by kernel_rfl) ?_
      intro w22 hl23
      have S24 := S21.step hl23
      have hy25 : Keep (yng w19) w19 w22 := .of_le hl23
      refine e_exact 1 _ (by kernel_rfl) rfl rfl (by kernel_rfl) rfl (ex_x rfl (fun w1 h1 => x_mv rfl)) ?_
      refine e_exact 2 _ (by kernel_rfl) rfl rfl (by kernel_rfl) rfl (ex_x rfl (fun w1 h1 => x_mv rfl)) ?_
      refine e_headF 3 (by kernel_rfl) rfl rfl (by kernel_rfl) rfl rfl (hD.rd.le S24.le) rfl rfl Tryz.runUnderlying23 Tryz.sizeOf26 (by omega) ?_
      intro v26 ht27
      refine e_exact 5 _ (by kernel_rfl) rfl rfl (by kernel_rfl) rfl (ex_x rfl (fun w1 h1 => x_load rfl (ld_blks ((S21.yng (hy25.trans h1)).blk 0 rfl) Tryz.isAgg26 Tryz.sizeOf26 rfl rfl))) ?_
      refine e_next [0] (by kernel_rfl) (by kernel_rfl) ⟨⟨_, _, rfl, rfl, ?_⟩, trivial⟩
      refine s_buildSlice ED [] (Own.start (X := nob) w22) rfl Tryz.runUnderlying23 Tryz.sizeOf26 Tryz.zeroValue26 rfl trivial (by decide) ?_
      intro v32 w28 S29 hl31
      have hn33 := S29.new 0 rfl
      have S30 := S24.add hl31 hn33
      refine ⟨.of_le hl31, ?_⟩
      have hy34 : Keep (yng w19) w19 w28 := hy25.trans (Keep.of_le hl31)
      refine e_next [4] (by kernel_rfl) (by kernel_rfl) ⟨⟨_, _, rfl, rfl, ?_⟩, trivial⟩
      refine s_append ED (S30.lend 1 rfl) 0 rfl rfl rfl rfl (ht27 _ (hD.rd.le S30.le)) Tryz.underlying23 info26 rfl rfl rfl (by unfold maxLen; rw [List.length_nil, List.length_take]; omega) (by rw [List.length_nil, List.length_take]; show _ * 120 ≤ _; omega) ?_
      intro v39 w35 S36 hk38 hv40
      have S37 := S30.back 1 rfl S36
      refine ⟨hk38.mono (fun c _ hc => Nat.le_trans hy25.size (hn33.bd c hc).1), ?_⟩
      have hy41 : Keep (yng w19) w19 w35 := hy34.trans (hk38.mono (fun c _ hc => Nat.le_trans hy25.size (hn33.bd c hc).1))
      refine e_next [6] (by kernel_rfl) (by kernel_rfl) ⟨⟨_, _, rfl, rfl, ?_⟩, trivial⟩
      refine s_callf [] [] [_, _] rfl rfl Tryz.call80 rfl ((c_rnamed (rs.take i) _ a (fun k => by have h9 := formed_ofs hfo k; rw [List.length_take]; omega) _ (hD.mem S37.le (by have h9 := (vec_rd (S37.at 1 rfl)); rw [Int.toNat_natCast, List.nil_append] at h9; exact h9) (fun x hx => List.mem_of_mem_take hx) (by rw [List.length_take]; omega)) ((hD.sub a ham).le S37.le)).mono ?_)
      rintro _ w42 ⟨rfl, hl44⟩
      have S43 := S37.step hl44
      refine ⟨.of_le hl44, ?_⟩
      have hy45 : Keep (yng w19) w19 w42 := hy41.trans (Keep.of_le hl44)
      refine e_done (by kernel_rfl) ?_
      refine l_x rfl (x_not rfl) ?_
      refine l_nil ?_
      refine r_if rfl (fun hc52 => ?_) (fun hc52 => ?_)
      · skip
        refine r_seq ?_
        refine r_region ?_
        refine l_x rfl (x_mv rfl) ?_
        refine l_x rfl (x_as rfl) ?_
        refine l_x rfl (x_as rfl) ?_
        refine l_nil ?_
        refine r_ret (rs := [.tmp 2, .tmp 3]) [_, _] Tryz.func22 rfl ⟨rfl, rfl, trivial⟩ ?_
        exact ⟨by show Value.tuple #[.int .i64 (i : Int), .int .i64 8] = _; rw [chk_tuple (dl_get ha) h0 (by rw [fol_ref (by rw [List.length_take, dl_len]; omega) hfo hid htm heb.2, if_pos (by rw [← dl_take]; simpa using hc52)]) (show (8 : Int) ≠ 0 by decide)], S43.le⟩
      refine r_skip ?_
      refine r_seq ?_
      refine r_seq ?_
      refine r_region ?_
      refine l_x rfl (x_fieldAddr rfl Tryz.runUnderlying26 rfl Tryz.sizeOf5 (by decide)) ?_
      refine l_x rfl (x_load rfl (ld_blk (S43.blk 0 rfl) Tryz.isAgg5 rfl)) ?_
      refine l_x rfl (x_eql rfl rfl) ?_
      refine l_nil ?_
      refine r_ifd rfl (fun hc56 => ?_) (fun hc56 => ?_)
      · skip
        have hpb := formed_parts hfo hc56
        have het := enters_take (dl_get ha)
        rw [if_pos hc56] at het
        refine r_region ?_
        refine l_x rfl (x_mv rfl) ?_
        refine l_x rfl (x_fieldAddr rfl Tryz.runUnderlying26 rfl Tryz.sizeOf3 (by decide)) ?_
        refine l_x rfl (x_load rfl (ld_blk (S43.blk 0 rfl) Tryz.isAgg3 rfl)) ?_
        refine l_x rfl (x_add rfl rfl (by omega)) ?_
        refine l_x rfl (x_as rfl) ?_
        refine l_nil ?_
        refine r_seq ?_
        refine r_region ?_
        refine l_x rfl (x_mv rfl) ?_
        refine l_x rfl (x_gtr rfl rfl) ?_
        refine l_nil ?_
        refine r_ifd rfl (fun hc62 => ?_) (fun hc62 => ?_)
        · skip
          refine r_seq ?_
          refine r_region ?_
          refine l_x rfl (x_mv rfl) ?_
          refine l_x rfl (x_as rfl) ?_
          refine l_x rfl (x_as rfl) ?_
          refine l_nil ?_
          refine r_ret (rs := [.tmp 2, .tmp 3]) [_, _] Tryz.func22 rfl ⟨rfl, rfl, trivial⟩ ?_
          exact ⟨by show Value.tuple #[.int .i64 (i : Int), .int .i64 2] = _; rw [chk_tuple (dl_get ha) h0 (by rw [fol_ref (by rw [List.length_take, dl_len]; omega) hfo hid htm heb.2, if_neg (by rw [← dl_take]; simpa using hc52), if_pos (by rw [if_pos hc56]; omega)]) (show (2 : Int) ≠ 0 by decide)], S43.le⟩
        have hfl := fol_ref (by rw [List.length_take, dl_len]; omega) hfo hid htm heb.2
        rw [if_neg (by rw [← dl_take]; simpa using hc52), if_neg (by rw [if_pos hc56]; omega)] at hfl
        refine r_skip ?_
        refine r_inBlock ?_
        refine r_region ?_
        refine l_x rfl (x_mv rfl) ?_
        refine l_x rfl (x_add rfl rfl (by omega)) ?_
        refine l_x rfl (x_as rfl) ?_
        refine l_nil ?_
        exact IH (i + 1) _ _ (by omega) ⟨rfl, (congrArg (Value.int .i64) (by omega)), rfl, trivial⟩ ⟨by omega, all_step h0 (by rw [chkAt_get (dl_get ha)]; exact hfl), by omega, (S43.take 0)⟩
      have het := enters_take (dl_get ha)
      rw [if_neg hc56] at het
      refine r_skip ?_
      refine r_seq ?_
      refine r_region ?_
      refine l_x rfl (x_mv rfl) ?_
      refine l_x rfl (x_gtr rfl rfl) ?_
      refine l_nil ?_
      refine r_ifd rfl (fun hc62 => ?_) (fun hc62 => ?_)
      · omega
      have hfl := fol_ref (by rw [List.length_take, dl_len]; omega) hfo hid htm heb.2
      rw [if_neg (by rw [← dl_take]; simpa using hc52), if_neg (by rw [if_neg hc56]; omega)] at hfl
      refine r_skip ?_
      refine r_inBlock ?_
      refine r_region ?_
      refine l_x rfl (x_mv rfl) ?_
      refine l_x rfl (x_add rfl rfl (by omega)) ?_
      refine l_x rfl (x_as rfl) ?_
      refine l_nil ?_
      exact IH (i + 1) _ _ (by omega) ⟨rfl, (congrArg (Value.int .i64) (by omega)), rfl, trivial⟩ ⟨by omega, all_step h0 (by rw [chkAt_get (dl_get ha)]; exact hfl), by omega, (S43.take 0)⟩
    refine w_pass rfl ?_
    refine w_pass rfl ?_
    refine w_pass rfl ?_
    refine w_pass rfl ?_
    refine w_pass rfl ?_
    refine w_pass rfl ?_
    refine w_pass rfl ?_
    refine w_pass rfl ?_
    refine w_pass rfl ?_
    refine w_x rfl (fun w1 h1 => x_pick_f rfl rfl) ?_
    refine w_nil ?_
    intro w46 hl47
    have S48 := S13.step hl47
    refine l_nil ?_
    refine r_false rfl ?_
    refine r_skip ?_
    refine r_seq ?_
    refine r_seq ?_
    have htm : lateB ((dl rs).take i) a.1 = false := by rw [← dl_take]; exact fol_last0 (rs := rs.take i) (by rw [List.length_take]; omega)
    refine r_drawE 7 (yng w46) Tryz.mixed (by kernel_rfl) ?_
    intro w49 hl50
    have S51 := S48.step hl50
    have hy52 : Keep (yng w46) w46 w49 := .of_le hl50
    refine e_exact 1 _ (by kernel_rfl) rfl rfl (by kernel_rfl) rfl (ex_x rfl (fun w1 h1 => x_mv rfl)) ?_
    refine e_exact 2 _ (by kernel_rfl) rfl rfl (by kernel_rfl) rfl (ex_x rfl (fun w1 h1 => x_mv rfl)) ?_
    refine e_headF 3 (by kernel_rfl) rfl rfl (by kernel_rfl) rfl rfl (hD.rd.le S51.le) rfl rfl Tryz.runUnderlying23 Tryz.sizeOf26 (by omega) ?_
    intro v53 ht54
    refine e_exact 5 _ (by kernel_rfl) rfl rfl (by kernel_rfl) rfl (ex_x rfl (fun w1 h1 => x_load rfl (ld_blks ((S48.yng (hy52.trans h1)).blk 0 rfl) Tryz.isAgg26 Tryz.sizeOf26 rfl rfl))) ?_
    refine e_next [0] (by kernel_rfl) (by kernel_rfl) ⟨⟨_, _, rfl, rfl, ?_⟩, trivial⟩
    refine s_buildSlice ED [] (Own.start (X := nob) w49) rfl Tryz.runUnderlying23 Tryz.sizeOf26 Tryz.zeroValue26 rfl trivial (by decide) ?_
    intro v59 w55 S56 hl58
    have hn60 := S56.new 0 rfl
    have S57 := S51.add hl58 hn60
    refine ⟨.of_le hl58, ?_⟩
    have hy61 : Keep (yng w46) w46 w55 := hy52.trans (Keep.of_le hl58)
    refine e_next [4] (by kernel_rfl) (by kernel_rfl) ⟨⟨_, _, rfl, rfl, ?_⟩, trivial⟩
    refine s_append ED (S57.lend 1 rfl) 0 rfl rfl rfl rfl (ht54 _ (hD.rd.le S57.le)) Tryz.underlying23 info26 rfl rfl rfl (by unfold maxLen; rw [List.length_nil, List.length_take]; omega) (by rw [List.length_nil, List.length_take]; show _ * 120 ≤ _; omega) ?_
    intro v66 w62 S63 hk65 hv67
    have S64 := S57.back 1 rfl S63
    refine ⟨hk65.mono (fun c _ hc => Nat.le_trans hy52.size (hn60.bd c hc).1), ?_⟩
    have hy68 : Keep (yng w46) w46 w62 := hy61.trans (hk65.mono (fun c _ hc => Nat.le_trans hy52.size (hn60.bd c hc).1))
    refine e_next [6] (by kernel_rfl) (by kernel_rfl) ⟨⟨_, _, rfl, rfl, ?_⟩, trivial⟩
    refine s_callf [] [] [_, _] rfl rfl Tryz.call80 rfl ((c_rnamed (rs.take i) _ a (fun k => by have h9 := formed_ofs hfo k; rw [List.length_take]; omega) _ (hD.mem S64.le (by have h9 := (vec_rd (S64.at 1 rfl)); rw [Int.toNat_natCast, List.nil_append] at h9; exact h9) (fun x hx => List.mem_of_mem_take hx) (by rw [List.length_take]; omega)) ((hD.sub a ham).le S64.le)).mono ?_)
    rintro _ w69 ⟨rfl, hl71⟩
    have S70 := S64.step hl71
    refine ⟨.of_le hl71, ?_⟩
    have hy72 : Keep (yng w46) w46 w69 := hy68.trans (Keep.of_le hl71)
    refine e_done (by kernel_rfl) ?_
    refine l_x rfl (x_not rfl) ?_
    refine l_nil ?_
    refine r_if rfl (fun hc52 => ?_) (fun hc52 => ?_)
    · skip
      refine r_seq ?_
      refine r_region ?_
      refine l_x rfl (x_mv rfl) ?_
      refine l_x rfl (x_as rfl) ?_
      refine l_x rfl (x_as rfl) ?_
      refine l_nil ?_
      refine r_ret (rs := [.tmp 2, .tmp 3]) [_, _] Tryz.func22 rfl ⟨rfl, rfl, trivial⟩ ?_
      exact ⟨by show Value.tuple #[.int .i64 (i : Int), .int .i64 8] = _; rw [chk_tuple (dl_get ha) h0 (by rw [fol_ref (by rw [List.length_take, dl_len]; omega) hfo hid htm heb.2, if_pos (by rw [← dl_take]; simpa using hc52)]) (show (8 : Int) ≠ 0 by decide)], S70.le⟩
    refine r_skip ?_
    refine r_seq ?_
    refine r_seq ?_
    refine r_region ?_
    refine l_x rfl (x_fieldAddr rfl Tryz.runUnderlying26 rfl Tryz.sizeOf5 (by decide)) ?_
    refine l_x rfl (x_load rfl (ld_blk (S70.blk 0 rfl) Tryz.isAgg5 rfl)) ?_
    refine l_x rfl (x_eql rfl rfl) ?_
    refine l_nil ?_
    refine r_ifd rfl (fun hc56 => ?_) (fun hc56 => ?_)
    · skip
      have hpb := formed_parts hfo hc56
      have het := enters_take (dl_get ha)
      rw [if_pos hc56] at het
      refine r_region ?_
      refine l_x rfl (x_mv rfl) ?_
      refine l_x rfl (x_fieldAddr rfl Tryz.runUnderlying26 rfl Tryz.sizeOf3 (by decide)) ?_
      refine l_x rfl (x_load rfl (ld_blk (S70.blk 0 rfl) Tryz.isAgg3 rfl)) ?_
      refine l_x rfl (x_add rfl rfl (by omega)) ?_
      refine l_x rfl (x_as rfl) ?_
      refine l_nil ?_
      refine r_seq ?_
      refine r_region ?_
      refine l_x rfl (x_mv rfl) ?_
      refine l_x rfl (x_gtr rfl rfl) ?_
      refine l_nil ?_
      refine r_ifd rfl (fun hc62 => ?_) (fun hc62 => ?_)
      · skip
        refine r_seq ?_
        refine r_region ?_
        refine l_x rfl (x_mv rfl) ?_
        refine l_x rfl (x_as rfl) ?_
        refine l_x rfl (x_as rfl) ?_
        refine l_nil ?_
        refine r_ret (rs := [.tmp 2, .tmp 3]) [_, _] Tryz.func22 rfl ⟨rfl, rfl, trivial⟩ ?_
        exact ⟨by show Value.tuple #[.int .i64 (i : Int), .int .i64 2] = _; rw [chk_tuple (dl_get ha) h0 (by rw [fol_ref (by rw [List.length_take, dl_len]; omega) hfo hid htm heb.2, if_neg (by rw [← dl_take]; simpa using hc52), if_pos (by rw [if_pos hc56]; omega)]) (show (2 : Int) ≠ 0 by decide)], S70.le⟩
      have hfl := fol_ref (by rw [List.length_take, dl_len]; omega) hfo hid htm heb.2
      rw [if_neg (by rw [← dl_take]; simpa using hc52), if_neg (by rw [if_pos hc56]; omega)] at hfl
      refine r_skip ?_
      refine r_inBlock ?_
      refine r_region ?_
      refine l_x rfl (x_mv rfl) ?_
      refine l_x rfl (x_add rfl rfl (by omega)) ?_
      refine l_x rfl (x_as rfl) ?_
      refine l_nil ?_
      exact IH (i + 1) _ _ (by omega) ⟨rfl, (congrArg (Value.int .i64) (by omega)), rfl, trivial⟩ ⟨by omega, all_step h0 (by rw [chkAt_get (dl_get ha)]; exact hfl), by omega, (S70.take 0)⟩
    have het := enters_take (dl_get ha)
    rw [if_neg hc56] at het
    refine r_skip ?_
    refine r_seq ?_
    refine r_region ?_
    refine l_x rfl (x_mv rfl) ?_
    refine l_x rfl (x_gtr rfl rfl) ?_
    refine l_nil ?_
    refine r_ifd rfl (fun hc62 => ?_) (fun hc62 => ?_)
    · omega
    have hfl := fol_ref (by rw [List.length_take, dl_len]; omega) hfo hid htm heb.2
    rw [if_neg (by rw [← dl_take]; simpa using hc52), if_neg (by rw [if_neg hc56]; omega)] at hfl
    refine r_skip ?_
    refine r_inBlock ?_
    refine r_region ?_
    refine l_x rfl (x_mv rfl) ?_
    refine l_x rfl (x_add rfl rfl (by omega)) ?_
    refine l_x rfl (x_as rfl) ?_
    refine l_nil ?_
    exact IH (i + 1) _ _ (by omega) ⟨rfl, (congrArg (Value.int .i64) (by omega)), rfl, trivial⟩ ⟨by omega, all_step h0 (by rw [chkAt_get (dl_get ha)]; exact hfl), by omega, (S70.take 0)⟩
  obtain rfl : i = rs.length := by omega
  refine r_exit rfl ?_
  refine r_seq ?_
  refine r_region ?_
  refine l_x rfl (x_as rfl) ?_
  refine l_x rfl (x_as rfl) ?_
  refine l_nil ?_
  refine r_ret (rs := [.tmp 2, .tmp 3]) [_, _] Tryz.func22 rfl ⟨rfl, rfl, trivial⟩ ?_
  exact ⟨by show Value.tuple #[.int .i64 0, .int .i64 0] = _; rw [chk_none (by rw [dl_len]; exact h0)], S1.le⟩

end Go.Proofs

/-
  Contracts of functions of the program: each by symbolic execution of its text.
-/
namespace Go.Proofs
open Go Go.Vk Go.Vk.Flow

open Go.Vk.Deed
theorem chk_snoc2 {l : List D} {x : D} (h : (chkD l).2 = 0) : (chkD (l ++ [x])).2 = follows l x := by
  have hR : rightD l = true := decide_eq_true h
  by_cases hf : follows l x = 0
  · rw [hf]; exact of_decide_eq_true (right_more hR hf)
  have h1 : chkAt (l ++ [x]) l.length = follows l x := by
    rw [chkAt_get (x := x) (by simp), List.take_append_of_le_length (Nat.le_refl _), List.take_length]
  rw [right_iff] at hR
  rw [chk_at (i := l.length) (by simp) (fun j hj => by
    have := hR j hj
    rw [chkAt_get (List.getElem?_eq_getElem hj)] at this
    rw [chkAt_get (x := l[j]) (by rw [List.getElem?_append_left hj]; exact List.getElem?_eq_getElem hj), List.take_append_of_le_length (by omega)]
    exact this) (by rw [h1]; exact hf), h1]
theorem dsr_or {w w' : World} {v s : Value} {rs rq : List Rw} {a : Rw} (hD : DsR 26 3 w v rs) (hA : SubR 3 w a) (ho : rq = [] ∨ rq = rs ++ [a] ∧ rs.length ≤ 400) (hk : Le w w') (h : Rd ED w' s rq) : DsR 26 3 w' s rq := by
  rcases ho with rfl | ⟨rfl, hl⟩
  · exact ⟨h, by simp, by simp⟩
  exact hD.snoc hA hk h (Nat.le_trans hl (by decide))
theorem appFormed {rs : List Rw} {l : List D} {x : D} (h : dl rs = (appendD l x).2) : ∀ y ∈ dl rs, formed y = true := by
  intro y hy
  rw [h] at hy
  by_cases h0 : (appendD l x).1 = 0
  · rw [append_ok h0] at hy
    exact right_formed (append_right h0) hy
  rw [append_no h0] at hy; cases hy
theorem appLen {rs : List Rw} {l : List D} {x : D} (h : dl rs = (appendD l x).2) : rs.length ≤ 400 := by
  rw [← dl_len, h]
  by_cases h0 : (appendD l x).1 = 0
  · rw [append_ok h0]; exact right_len (append_right h0)
  rw [append_no h0]; exact Nat.zero_le _
theorem app_len0 {rs : List Rw} (h : (chkD (dl rs)).2 = 0) : rs.length ≤ 400 := by
  have := right_len (l := dl rs) (decide_eq_true h)
  rwa [dl_len] at this

set_option maxHeartbeats 2000000 in
/-- couchant/couchantref02.Append. -/
theorem c_rAppend (rs : List Rw) (vl : Value) (a : Rw) (w : World) (hD : DsR 26 3 w vl rs) (hA : SubR 3 w a) :
    Cl Tryz.prog 45 #[vl, .agg (encD a).toArray] w fun v w' => ∃ s rs' e, v = .tuple #[s, .int .i64 e] ∧ e = (appendD (dl rs) a.1).1 ∧ dl rs' = (appendD (dl rs) a.1).2 ∧ (rs' = [] ∨ rs' = rs ++ [a] ∧ rs.length ≤ 400) ∧ New w w' (vec ED s rs') ∧ Le w w' := by
  refine fn_of_run (args := [_, _]) 32 Tryz.func45 rfl rfl rfl fun cs => ?_
  have S := Own.start (X := nob) w
  refine r_seq ?_
  refine r_region ?_
  refine l_box S rfl rfl ?_
  intro b4 w1 S2 hl3
  refine l_x rfl (x_as rfl) ?_
  refine l_x rfl (x_as rfl) ?_
  refine l_nil ?_
  refine r_seq ?_
  refine r_region ?_
  refine l_x rfl (x_mv rfl) ?_
  refine l_call [] [] [_] rfl rfl Tryz.call22 rfl (c_rCheck rs _ _ (hD.le S2.le)) ?_
  rintro _ w5 ⟨rfl, hl7⟩
  have S6 := S2.step hl7
  refine l_x rfl (x_mv rfl) ?_
  refine l_x rfl (x_extract rfl rfl) ?_
  refine l_x rfl (x_extract rfl rfl) ?_
  refine l_x rfl (x_as rfl) ?_
  refine l_x rfl (x_as rfl) ?_
  refine l_nil ?_
  refine r_seq ?_
  refine r_seq ?_
  refine r_region ?_
  refine l_x rfl (x_mv rfl) ?_
  refine l_x rfl (x_neq rfl rfl) ?_
  refine l_nil ?_
  refine r_ifd rfl (fun hc15 => ?_) (fun hc15 => ?_)
  · skip
    refine r_seq ?_
    refine r_region ?_
    refine l_x rfl (x_mv rfl) ?_
    refine l_x rfl (x_as rfl) ?_
    refine l_x rfl (x_as rfl) ?_
    refine l_nil ?_
    refine r_ret (rs := [.tmp 4, .tmp 5]) [_, _] Tryz.func45 rfl ⟨rfl, rfl, trivial⟩ ?_
    exact ⟨_, [], _, rfl, by rw [app_bad hc15], by rw [app_bad hc15]; rfl, .inl rfl, New.nilvec .., S6.le⟩
  have h0 := Decidable.not_not.1 hc15
  have hlr := app_len0 h0
  refine r_skip ?_
  refine r_seq ?_
  refine r_drawE 5 (yng w5) Tryz.mixed (by kernel_rfl) ?_
  intro w8 hl9
  have S10 := S6.step hl9
  have hy11 : Keep (yng w5) w5 w8 := .of_le hl9
  refine e_exact 1 _ (by kernel_rfl) rfl rfl (by kernel_rfl) rfl (ex_x rfl (fun w1 h1 => x_mv rfl)) ?_
  refine e_exact 3 _ (by kernel_rfl) rfl rfl (by kernel_rfl) rfl (ex_x rfl (fun w1 h1 => x_load rfl (ld_blks ((S6.yng (hy11.trans h1)).blk 0 rfl) Tryz.isAgg26 Tryz.sizeOf26 rfl rfl))) ?_
  refine e_next [0, 4] (by kernel_rfl) (by kernel_rfl) ⟨⟨_, _, rfl, rfl, ?_⟩, ⟨_, _, rfl, rfl, ?_⟩, trivial⟩
  · skip
    refine s_buildSlice ED [] (Own.start (X := nob) w8) rfl Tryz.runUnderlying23 Tryz.sizeOf26 Tryz.zeroValue26 rfl trivial (by decide) ?_
    intro v16 w12 S13 hl15
    have hn17 := S13.new 0 rfl
    have S14 := S10.add hl15 hn17
    refine ⟨.of_le hl15, ?_⟩
    have hy18 : Keep (yng w5) w5 w12 := hy11.trans (Keep.of_le hl15)
    refine e_next [2, 4] (by kernel_rfl) (by kernel_rfl) ⟨⟨_, _, rfl, rfl, ?_⟩, ⟨_, _, rfl, rfl, ?_⟩, trivial⟩
    · skip
      refine s_append ED (S14.lend 1 rfl) 0 rfl rfl rfl rfl (hD.rd.le S14.le) Tryz.underlying23 info26 rfl rfl rfl (by unfold maxLen; rw [List.length_nil]; omega) (by rw [List.length_nil]; show _ * 120 ≤ _; omega) ?_
      intro v23 w19 S20 hk22 hv24
      have S21 := S14.back 1 rfl S20
      refine ⟨hk22.mono (fun c _ hc => Nat.le_trans hy11.size (hn17.bd c hc).1), ?_⟩
      have hy25 : Keep (yng w5) w5 w19 := hy18.trans (hk22.mono (fun c _ hc => Nat.le_trans hy11.size (hn17.bd c hc).1))
      refine e_next [4] (by kernel_rfl) (by kernel_rfl) ⟨⟨_, _, rfl, rfl, ?_⟩, trivial⟩
      refine s_buildSlice ED [a] (Own.start (X := nob) w19) rfl Tryz.runUnderlying23 Tryz.sizeOf26 Tryz.zeroValue26 rfl ⟨rfl, rfl, trivial⟩ (by decide) ?_
      intro v30 w26 S27 hl29
      have hn31 := S27.new 0 rfl
      have S28 := S21.add hl29 hn31
      refine ⟨.of_le hl29, ?_⟩
      have hy32 : Keep (yng w5) w5 w26 := hy25.trans (Keep.of_le hl29)
      refine e_done (by kernel_rfl) ?_
      refine l_append ED S28 1 rfl rfl rfl rfl (vec_rd (S28.at 2 rfl)) Tryz.underlying23 info26 rfl rfl rfl (by unfold maxLen; simp; omega) (by show _ * 120 ≤ _; simp; omega) ?_
      intro v36 w33 S34 hk35 hv37
      refine l_x rfl (x_as rfl) ?_
      refine l_nil ?_
      refine r_seq ?_
      refine r_region ?_
      refine l_x rfl (x_mv rfl) ?_
      refine l_call [] [] [_] rfl rfl Tryz.call22 rfl (c_rCheck (rs ++ [a]) _ _ (hD.snoc hA S34.le (vec_rd (S34.at 1 rfl)) (by omega))) ?_
      rintro _ w38 ⟨rfl, hl40⟩
      have S39 := S34.step hl40
      refine l_x rfl (x_mv rfl) ?_
      refine l_x rfl (x_extract rfl rfl) ?_
      refine l_x rfl (x_extract rfl rfl) ?_
      refine l_x rfl (x_as rfl) ?_
      refine l_nil ?_
      refine r_seq ?_
      refine r_seq ?_
      refine r_region ?_
      refine l_x rfl (x_mv rfl) ?_
      refine l_x rfl (x_neq rfl rfl) ?_
      refine l_nil ?_
      refine r_ifd rfl (fun hc29 => ?_) (fun hc29 => ?_)
      · skip
        have he1 : (chkD (dl (rs ++ [a]))).2 = follows (dl rs) a.1 := by rw [dl_snoc]; exact chk_snoc2 h0
        have hf : follows (dl rs) a.1 ≠ 0 := by rw [← he1]; exact hc29
        refine r_seq ?_
        refine r_region ?_
        refine l_x rfl (x_mv rfl) ?_
        refine l_x rfl (x_as rfl) ?_
        refine l_x rfl (x_as rfl) ?_
        refine l_nil ?_
        refine r_ret (rs := [.tmp 4, .tmp 5]) [_, _] Tryz.func45 rfl ⟨rfl, rfl, trivial⟩ ?_
        exact ⟨_, [], _, rfl, by rw [app_no h0 hf]; exact he1, by rw [app_no h0 hf]; rfl, .inl rfl, New.nilvec .., S39.le⟩
      have hf : follows (dl rs) a.1 = 0 := by rw [← chk_snoc2 h0, ← dl_snoc]; exact Decidable.not_not.1 hc29
      refine r_skip ?_
      refine r_seq ?_
      refine r_region ?_
      refine l_x rfl (x_mv rfl) ?_
      refine l_x rfl (x_as rfl) ?_
      refine l_x rfl (x_as rfl) ?_
      refine l_nil ?_
      refine r_ret (rs := [.tmp 4, .tmp 5]) [_, _] Tryz.func45 rfl ⟨rfl, rfl, trivial⟩ ?_
      exact ⟨_, rs ++ [a], _, rfl, by rw [app_ok h0 hf], by rw [app_ok h0 hf, dl_snoc], .inr ⟨rfl, hlr⟩, S39.new 1 rfl, S39.le⟩
    refine s_buildSlice ED [a] (Own.start (X := nob) w12) rfl Tryz.runUnderlying23 Tryz.sizeOf26 Tryz.zeroValue26 rfl ⟨rfl, rfl, trivial⟩ (by decide) ?_
    intro v45 w41 S42 hl44
    have hn46 := S42.new 0 rfl
    have S43 := S14.add hl44 hn46
    refine ⟨.of_le hl44, ?_⟩
    have hy47 : Keep (yng w5) w5 w41 := hy18.trans (Keep.of_le hl44)
    refine e_next [2] (by kernel_rfl) (by kernel_rfl) ⟨⟨_, _, rfl, rfl, ?_⟩, trivial⟩
    refine s_append ED (S43.lend 1 rfl) 0 rfl rfl rfl rfl (hD.rd.le S43.le) Tryz.underlying23 info26 rfl rfl rfl (by unfold maxLen; rw [List.length_nil]; omega) (by rw [List.length_nil]; show _ * 120 ≤ _; omega) ?_
    intro v52 w48 S49 hk51 hv53
    have S50 := S43.back 1 rfl S49
    refine ⟨hk51.mono (fun c _ hc => Nat.le_trans hy11.size (hn17.bd c hc).1), ?_⟩
    have hy54 : Keep (yng w5) w5 w48 := hy47.trans (hk51.mono (fun c _ hc => Nat.le_trans hy11.size (hn17.bd c hc).1))
    refine e_done (by kernel_rfl) ?_
    refine l_append ED S50 1 rfl rfl rfl rfl (vec_rd (S50.at 2 rfl)) Tryz.underlying23 info26 rfl rfl rfl (by unfold maxLen; simp; omega) (by show _ * 120 ≤ _; simp; omega) ?_
    intro v58 w55 S56 hk57 hv59
    refine l_x rfl (x_as rfl) ?_
    refine l_nil ?_
    refine r_seq ?_
    refine r_region ?_
    refine l_x rfl (x_mv rfl) ?_
    refine l_call [] [] [_] rfl rfl Tryz.call22 rfl (c_rCheck (rs ++ [a]) _ _ (hD.snoc hA S56.le (vec_rd (S56.at 1 rfl)) (by omega))) ?_
    rintro _ w60 ⟨rfl, hl62⟩
    have S61 := S56.step hl62
    refine l_x rfl (x_mv rfl) ?_
    refine l_x rfl (x_extract rfl rfl) ?_
    refine l_x rfl (x_extract rfl rfl) ?_
    refine l_x rfl (x_as rfl) ?_
    refine l_nil ?_
    refine r_seq ?_
    refine r_seq ?_
    refine r_region ?_
    refine l_x rfl (x_mv rfl) ?_
    refine l_x rfl (x_neq rfl rfl) ?_
    refine l_nil ?_
    refine r_ifd rfl (fun hc29 => ?_) (fun hc29 => ?_)
    · skip
      have he1 : (chkD (dl (rs ++ [a]))).2 = follows (dl rs) a.1 := by rw [dl_snoc]; exact chk_snoc2 h0
      have hf : follows (dl rs) a.1 ≠ 0 := by rw [← he1]; exact hc29
      refine r_seq ?_
      refine r_region ?_
      refine l_x rfl (x_mv rfl) ?_
      refine l_x rfl (x_as rfl) ?_
      refine l_x rfl (x_as rfl) ?_
      refine l_nil ?_
      refine r_ret (rs := [.tmp 4, .tmp 5]) [_, _] Tryz.func45 rfl ⟨rfl, rfl, trivial⟩ ?_
      exact ⟨_, [], _, rfl, by rw [app_no h0 hf]; exact he1, by rw [app_no h0 hf]; rfl, .inl rfl, New.nilvec .., S61.le⟩
    have hf : follows (dl rs) a.1 = 0 := by rw [← chk_snoc2 h0, ← dl_snoc]; exact Decidable.not_not.1 hc29
    refine r_skip ?_
    refine r_seq ?_
    refine r_region ?_
    refine l_x rfl (x_mv rfl) ?_
    refine l_x rfl (x_as rfl) ?_
    refine l_x rfl (x_as rfl) ?_
    refine l_nil ?_
    refine r_ret (rs := [.tmp 4, .tmp 5]) [_, _] Tryz.func45 rfl ⟨rfl, rfl, trivial⟩ ?_
    exact ⟨_, rs ++ [a], _, rfl, by rw [app_ok h0 hf], by rw [app_ok h0 hf, dl_snoc], .inr ⟨rfl, hlr⟩, S61.new 1 rfl, S61.le⟩
  refine s_buildSlice ED [a] (Own.start (X := nob) w8) rfl Tryz.runUnderlying23 Tryz.sizeOf26 Tryz.zeroValue26 rfl ⟨rfl, rfl, trivial⟩ (by decide) ?_
  intro v67 w63 S64 hl66
  have hn68 := S64.new 0 rfl
  have S65 := S10.add hl66 hn68
  refine ⟨.of_le hl66, ?_⟩
  have hy69 : Keep (yng w5) w5 w63 := hy11.trans (Keep.of_le hl66)
  refine e_next [0] (by kernel_rfl) (by kernel_rfl) ⟨⟨_, _, rfl, rfl, ?_⟩, trivial⟩
  refine s_buildSlice ED [] (Own.start (X := nob) w63) rfl Tryz.runUnderlying23 Tryz.sizeOf26 Tryz.zeroValue26 rfl trivial (by decide) ?_
  intro v74 w70 S71 hl73
  have hn75 := S71.new 0 rfl
  have S72 := S65.add hl73 hn75
  refine ⟨.of_le hl73, ?_⟩
  have hy76 : Keep (yng w5) w5 w70 := hy69.trans (Keep.of_le hl73)
  refine e_next [2] (by kernel_rfl) (by kernel_rfl) ⟨⟨_, _, rfl, rfl, ?_⟩, trivial⟩
  refine s_append ED (S72.lend 2 rfl) 0 rfl rfl rfl rfl (hD.rd.le S72.le) Tryz.underlying23 info26 rfl rfl rfl (by unfold maxLen; rw [List.length_nil]; omega) (by rw [List.length_nil]; show _ * 120 ≤ _; omega) ?_
  intro v81 w77 S78 hk80 hv82
  have S79 := S72.back 2 rfl S78
  refine ⟨hk80.mono (fun c _ hc => Nat.le_trans hy69.size (hn75.bd c hc).1), ?_⟩
  have hy83 : Keep (yng w5) w5 w77 := hy76.trans (hk80.mono (fun c _ hc => Nat.le_trans hy69.size (hn75.bd c hc).1))
  refine e_done (by kernel_rfl) ?_
  refine l_append ED S79 2 rfl rfl rfl rfl (vec_rd (S79.at 1 rfl)) Tryz.underlying23 info26 rfl rfl rfl (by unfold maxLen; simp; omega) (by show _ * 120 ≤ _; simp; omega) ?_
  intro v87 w84 S85 hk86 hv88
  refine l_x rfl (x_as rfl) ?_
  refine l_nil ?_
  refine r_seq ?_
  refine r_region ?_
  refine l_x rfl (x_mv rfl) ?_
  refine l_call [] [] [_] rfl rfl Tryz.call22 rfl (c_rCheck (rs ++ [a]) _ _ (hD.snoc hA S85.le (vec_rd (S85.at 2 rfl)) (by omega))) ?_
  rintro _ w89 ⟨rfl, hl91⟩
  have S90 := S85.step hl91
  refine l_x rfl (x_mv rfl) ?_
  refine l_x rfl (x_extract rfl rfl) ?_
  refine l_x rfl (x_extract rfl rfl) ?_
  refine l_x rfl (x_as rfl) ?_
  refine l_nil ?_
  refine r_seq ?_
  refine r_seq ?_
  refine r_region ?_
  refine l_x rfl (x_mv rfl) ?_
  refine l_x rfl (x_neq rfl rfl) ?_
  refine l_nil ?_
  refine r_ifd rfl (fun hc29 => ?_) (fun hc29 => ?_)
  · skip
    have he1 : (chkD (dl (rs ++ [a]))).2 = follows (dl rs) a.1 := by rw [dl_snoc]; exact chk_snoc2 h0
    have hf : follows (dl rs) a.1 ≠ 0 := by rw [← he1]; exact hc29
    refine r_seq ?_
    refine r_region ?_
    refine l_x rfl (x_mv rfl) ?_
    refine l_x rfl (x_as rfl) ?_
    refine l_x rfl (x_as rfl) ?_
    refine l_nil ?_
    refine r_ret (rs := [.tmp 4, .tmp 5]) [_, _] Tryz.func45 rfl ⟨rfl, rfl, trivial⟩ ?_
    exact ⟨_, [], _, rfl, by rw [app_no h0 hf]; exact he1, by rw [app_no h0 hf]; rfl, .inl rfl, New.nilvec .., S90.le⟩
  have hf : follows (dl rs) a.1 = 0 := by rw [← chk_snoc2 h0, ← dl_snoc]; exact Decidable.not_not.1 hc29
  refine r_skip ?_
  refine r_seq ?_
  refine r_region ?_
  refine l_x rfl (x_mv rfl) ?_
  refine l_x rfl (x_as rfl) ?_
  refine l_x rfl (x_as rfl) ?_
  refine l_nil ?_
  refine r_ret (rs := [.tmp 4, .tmp 5]) [_, _] Tryz.func45 rfl ⟨rfl, rfl, trivial⟩ ?_
  exact ⟨_, rs ++ [a], _, rfl, by rw [app_ok h0 hf], by rw [app_ok h0 hf, dl_snoc], .inr ⟨rfl, hlr⟩, S90.new 2 rfl, S90.le⟩

end Go.Proofs
