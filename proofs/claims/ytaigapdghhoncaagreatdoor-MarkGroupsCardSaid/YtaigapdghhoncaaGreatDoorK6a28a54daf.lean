/- Texts joined for claims: LGroups. -/
import Derived.Test.YtaigapdghhoncaaGreatDoorKe20527b023
import Derived.Test.YtaigapdghhoncaaGreatDoorKa73eaece69
set_option linter.unusedVariables false
set_option linter.unusedSimpArgs false
set_option linter.unusedSectionVars false
namespace Go.Proofs
open Go Go.Vk Go.Vk.Flow

open Go.Vk.Mark
open Go.Vk.Deed (i64 rng rng_iff owners sumI sumI_cons sumI_snoc)
open Go.Vk.Deed (sumI sumI_cons sumI_snoc)

section
variable {b : Sm} {day o : Int} {l : List Sg} {rs : List Gw} {x y : Gw} {i k : Nat} {t : Sg} {key : List Int}
theorem gq_of (h : gpE b day l = 0) : openE b day true = 0 ∧ foundE l = 0 := ⟨(begin_parts (gpE_begin.trans h)).1, (begin_parts (gpE_begin.trans h)).2.1⟩
theorem rg_ok (h : gpE b day l = 0) (ho : ownB o = true) : rgE b day l o = 0 := by unfold rgE; rw [ho]; exact h
theorem part_sum : ∀ (l : List Int) (i : Nat), (∀ x ∈ l, 0 ≤ x) → 0 ≤ sumI (l.take i) ∧ sumI (l.take i) ≤ sumI l
 | [], i, _ => by rw [List.take_nil]; exact ⟨Int.le_refl 0, Int.le_refl _⟩
 | x :: l, 0, h => by
  have h1 := part_sum l 0 fun y hy => h y (List.mem_cons_of_mem _ hy)
  have h2 := h x List.mem_cons_self
  rw [List.take_zero] at h1 ⊢
  rw [sumI_cons]; omega
 | x :: l, i + 1, h => by
  have h1 := part_sum l i fun y hy => h y (List.mem_cons_of_mem _ hy)
  have h2 := h x List.mem_cons_self
  rw [List.take_succ_cons, sumI_cons, sumI_cons]; omega
theorem gi_num (I : GrpI (l.map (ownersOf b day)) (rs.map (·.1))) (hx : rs[i]? = some x) : x.1.2 = cntK (l.map (ownersOf b day)) x.1.1 ∧ 1 ≤ x.1.2 := I.num _ (List.mem_map_of_mem (List.mem_of_getElem? hx))
theorem gi_sum (I : GrpI (l.map (ownersOf b day)) (rs.map (·.1))) (i : Nat) : 0 ≤ sumI ((rs.take i).map fun x : Gw => x.1.2) ∧ sumI ((rs.take i).map fun x : Gw => x.1.2) ≤ l.length := by
 have h1 := I.sum
 rw [List.map_map, List.length_map] at h1
 have h2 := part_sum (rs.map fun x : Gw => x.1.2) i fun z hz => by
  obtain ⟨x, hx, rfl⟩ := List.mem_map.1 hz
  have := (I.num _ (List.mem_map_of_mem hx)).2
  omega
 rw [← List.map_take] at h2
 have h3 : sumI (rs.map fun x : Gw => x.1.2) = l.length := h1
 omega
theorem gi_all (I : GrpI (l.map (ownersOf b day)) (rs.map (·.1))) : sumI ((rs.take rs.length).map fun x : Gw => x.1.2) = l.length := by
 have h1 := I.sum
 rw [List.map_map, List.length_map] at h1
 rw [List.take_length]; exact h1
theorem gi_step (hx : rs[i]? = some x) : sumI ((rs.take (i + 1)).map fun x : Gw => x.1.2) = sumI ((rs.take i).map fun x : Gw => x.1.2) + x.1.2 := by
 rw [take_sn hx, List.map_append, List.map_singleton, sumI_snoc]
theorem ck_step (ht : l[k]? = some t) : cntK ((l.take (k + 1)).map (ownersOf b day)) key = cntK ((l.take k).map (ownersOf b day)) key + if ownersOf b day t = key then 1 else 0 := by
 rw [take_sn ht, List.map_append, List.map_singleton]; exact cntK_snoc (h := ((key, 0) : Gr))
theorem ck_bd : 0 ≤ cntK ((l.take k).map (ownersOf b day)) key ∧ cntK ((l.take k).map (ownersOf b day)) key ≤ k := by
 unfold cntK
 have h1 := List.length_filter_le (fun z => decide (z = key)) ((l.take k).map (ownersOf b day))
 rw [List.length_map, List.length_take] at h1
 omega
theorem gi_less (I : GrpI (l.map (ownersOf b day)) (rs.map (·.1))) (hy : rs[i - 1]? = some y) (hx : rs[i]? = some x) (hi : 0 < i) : less y.1.1 x.1.1 = true := by
 obtain ⟨h1, rfl⟩ := List.getElem?_eq_some_iff.1 hy
 obtain ⟨h2, rfl⟩ := List.getElem?_eq_some_iff.1 hx
 exact List.pairwise_iff_getElem.1 (List.pairwise_map.1 I.sorted) (i - 1) i h1 h2 (by omega)
theorem gi_one (I : GrpI (l.map (ownersOf b day)) (rs.map (·.1))) (hx : rs[i]? = some x) (hl : x.1.1.length = 1) : ∃ o, x.1.1[0]? = some o ∧ ownB o = true ∧ sureN b day l o = x.1.2 := by
 obtain ⟨o, ho⟩ := List.length_eq_one_iff.1 hl
 obtain ⟨t, _, e⟩ := List.mem_map.1 (I.key _ (List.mem_map_of_mem (List.mem_of_getElem? hx)))
 have hm : o ∈ ownersOf b day t := by rw [e, ho]; simp
 have hw := (List.mem_filter.1 hm).1
 refine ⟨o, by rw [ho]; rfl, ?_, ?_⟩
 ·unfold ownB; rw [rng_iff]; exact mem_own.1 hw
 rw [sure_cnt hw, (gi_num I hx).1, ho]
end

set_option maxHeartbeats 8000000 in
theorem lawGroups (b : Sm) (vm vf : Value) (day : Int) (l : List Sg) (vs : Value) (hm : l.length ≤ 9223372036854775807) (hs : ∀ t ∈ l, SgOk t) (w : World) (hB : SmR 39 41 w vm vf b) (hG : Gl w) (hF : Rd ESG w vs l) :
  Cl Tryz.prog 17 #[.agg #[vm, vf], Value.int .i64 day, vs] w fun v w' => v = .bool true ∧ Le w w' := by
 have hlm := hB.lm
 have hlf := hB.lf
 refine fn_of_run (args := [_, _, _]) 149 Tryz.func17 rfl rfl rfl fun cs => ?_
 have S := Own.start (X := nob) w
 refine r_seq ?_
 refine r_region ?_
 refine l_box S rfl rfl ?_
 intro b4 w1 S2 hl3
 refine l_a rfl ?_
 refine l_nil ?_
 refine r_seq ?_
 refine r_seq ?_
 refine r_region ?_
 refine l_x rfl (x_fieldAddr rfl Tryz.runUnderlying25 rfl Tryz.sizeOf22 (by decide)) ?_
 refine l_x rfl (x_load rfl (ld_blk (S2.blk 0 rfl) Tryz.isAgg22 rfl)) ?_
 refine l_x rfl (x_len (hB.m.le S2.le) rfl Tryz.runUnderlying22) ?_
 refine l_x rfl (x_gtr rfl rfl) ?_
 refine l_m rfl ?_
 refine l_splitd (d := 22) rfl (fun hg22 => ?_) (fun hg22 => ?_)
 ·skip
  refine l_pass rfl ?_
  refine l_pass rfl ?_
  refine l_pass rfl ?_
  refine l_x rfl (x_pick_t rfl rfl) ?_
  refine l_nil ?_
  refine r_true rfl ?_
  refine r_seq ?_
  refine r_region ?_
  refine l_call [] [] [] rfl rfl Tryz.call20 rfl (c_marked _ (hG.le S2.le)) ?_
  rintro _ w5 ⟨rfl, hl7⟩
  have S6 := S2.step hl7
  refine l_a rfl ?_
  refine l_nil ?_
  refine r_ret (rs := [.tmp 6]) [_] Tryz.func17 rfl ⟨rfl, trivial⟩ ?_
  exact ⟨rfl, S6.le⟩
 refine l_m rfl ?_
 refine l_x rfl (x_len (hF.le S2.le) rfl Tryz.runUnderlying50) ?_
 refine l_x rfl (x_gtr rfl rfl) ?_
 refine l_x rfl (x_pick_f rfl rfl) ?_
 refine l_nil ?_
 refine r_ifd rfl (fun hc26 => ?_) (fun hc26 => ?_)
 ·skip
  refine r_seq ?_
  refine r_region ?_
  refine l_call [] [] [] rfl rfl Tryz.call20 rfl (c_marked _ (hG.le S2.le)) ?_
  rintro _ w8 ⟨rfl, hl10⟩
  have S9 := S2.step hl10
  refine l_a rfl ?_
  refine l_nil ?_
  refine r_ret (rs := [.tmp 6]) [_] Tryz.func17 rfl ⟨rfl, trivial⟩ ?_
  exact ⟨rfl, S9.le⟩
 refine r_skip ?_
 refine r_seq ?_
 refine r_region ?_
 refine l_x rfl (x_load rfl (ld_blks (S2.blk 0 rfl) Tryz.isAgg25 Tryz.sizeOf25 rfl rfl)) ?_
 refine l_m rfl ?_
 refine l_m rfl ?_
 refine l_call [] [] [_, _, _] rfl rfl Tryz.call60 rfl (c_Groups b vm vf day l vs (by omega) hs _ (hB.le S2.le) (hF.le S2.le)) ?_
 rintro _ w11 (⟨e7, hne7, rfl, he7, hl3211⟩ | ⟨vo7, rs7, ns7, rfl, hg7, hgs7, hgo7, hN3211, hl3211⟩)
 ·skip
  have S12 := S2.step hl3211
  refine l_m rfl ?_
  refine l_x rfl (x_extract rfl rfl) ?_
  refine l_x rfl (x_extract rfl rfl) ?_
  refine l_a rfl ?_
  refine l_a rfl ?_
  refine l_nil ?_
  refine r_seq ?_
  refine r_seq ?_
  refine r_region ?_
  refine l_m rfl ?_
  refine l_x rfl (x_neq rfl rfl) ?_
  refine l_nil ?_
  refine r_ifd rfl (fun hc36 => ?_) (fun hc36 => ?_)
  ·skip
   refine r_seq ?_
   refine r_region ?_
   refine l_call [] [] [] rfl rfl Tryz.call20 rfl (c_marked _ (hG.le S12.le)) ?_
   rintro _ w13 ⟨rfl, hl15⟩
   have S14 := S12.step hl15
   refine l_m rfl ?_
   refine l_m rfl ?_
   refine l_x rfl (x_len (rd_nil (E := EGR) (w := w)) rfl Tryz.runUnderlying85) ?_
   refine l_x rfl (x_eql rfl rfl) ?_
   refine l_x rfl (x_pick_t rfl rfl) ?_
   refine l_a rfl ?_
   refine l_nil ?_
   refine r_ret (rs := [.tmp 6]) [_] Tryz.func17 rfl ⟨rfl, trivial⟩ ?_
   exact ⟨by first | rfl | exact congrArg Value.bool (decide_eq_true rfl), S14.le⟩
  exact absurd hne7 hc36
 have S16 := S2.add hl3211 hN3211
 have hl60 := gp_len hg7
 refine l_m rfl ?_
 refine l_x rfl (x_extract rfl rfl) ?_
 refine l_x rfl (x_extract rfl rfl) ?_
 refine l_a rfl ?_
 refine l_a rfl ?_
 refine l_nil ?_
 refine r_seq ?_
 refine r_seq ?_
 refine r_region ?_
 refine l_m rfl ?_
 refine l_x rfl (x_neq rfl rfl) ?_
 refine l_nil ?_
 refine r_ifd rfl (fun hc36 => ?_) (fun hc36 => ?_)
 ·exact absurd rfl hc36
 have hl60 := gp_len hg7
 have hI7 := hgs7.I
 rw [List.take_length] at hI7
 have hrl7 := hgs7.len
 obtain ⟨hop, hf0⟩ := gq_of hg7
 have hfo := found_ok hf0
 refine r_skip ?_
 refine r_seq ?_
 refine r_region ?_
 refine l_a rfl ?_
 refine l_nil ?_
 refine r_seq ?_
 refine r_seq ?_
 refine r_region ?_
 refine l_a rfl ?_
 refine l_nil ?_
 refine r_block ?_
 refine r_loop (G := Nat) (fun i => rs7.length - i) (fun i => [(1, Value.int .i64 day), (2, vs), (3, .pointer (some ⟨b4, 0, none⟩)), (7, vo7), (9, Value.int .i64 (Go.Vk.Deed.sumI ((rs7.take i).map fun x : Gw => x.1.2))), (10, Value.int .i64 i)]) (fun i w' => (i ≤ rs7.length) ∧ Own nob w w' [blk b4 [vm, vf] 25, pack [vec EGR vo7 rs7, pack ns7]]) 0 ⟨rfl, rfl, rfl, rfl, rfl, rfl, trivial⟩ ⟨Nat.zero_le _, (S16.take 2)⟩ ?_
 rintro i ρ w1 ⟨hi, S1⟩ IH
 refine r_seq ?_
 refine r_seq ?_
 refine r_region ?_
 refine l_m rfl ?_
 refine l_m rfl ?_
 refine l_x rfl (x_len (pk_grs (S1.at 1 rfl) hgo7).rd rfl Tryz.runUnderlying85) ?_
 refine l_x rfl (x_lss rfl rfl) ?_
 refine l_nil ?_
 refine r_ifd rfl (fun hc46 => ?_) (fun hc46 => ?_)
 ·skip
  obtain ⟨x9, hx9⟩ : ∃ x, rs7[i]? = some x := ⟨_, List.getElem?_eq_getElem (by omega)⟩
  have hn9 := gi_num hI7 hx9
  have hk9 := hgs7.key (List.mem_of_getElem? hx9)
  have hs9 := gi_sum hI7 i
  have hs8 := gi_step hx9
  have hs7 := gi_sum hI7 (i + 1)
  refine r_skip ?_
  refine r_seq ?_
  refine r_block ?_
  refine r_seq ?_
  refine r_region ?_
  refine l_m rfl ?_
  refine l_m rfl ?_
  refine l_m rfl ?_
  refine l_index EGR rfl (pk_grs (S1.at 1 rfl) hgo7).rd rfl rfl Tryz.runUnderlying85 Tryz.sizeOf91 (by omega) hx9 ?_
  intro b17 o18 hat19 row20
  refine l_x rfl (x_fieldAddr rfl Tryz.runUnderlying91 rfl Tryz.sizeOf3 (by decide)) ?_
  refine l_x rfl (x_load rfl (ld_cell Tryz.isAgg3 (row20 1 _ rfl))) ?_
  refine l_x rfl (x_add rfl rfl (by omega)) ?_
  refine l_a rfl ?_
  refine l_nil ?_
  refine r_seq ?_
  refine r_region ?_
  refine l_a rfl ?_
  refine l_nil ?_
  refine r_seq ?_
  refine r_seq ?_
  refine r_region ?_
  refine l_a rfl ?_
  refine l_nil ?_
  refine r_block ?_
  refine r_loop (G := Nat) (fun k => l.length - k) (fun k => [(1, Value.int .i64 day), (2, vs), (3, .pointer (some ⟨b4, 0, none⟩)), (7, vo7), (9, Value.int .i64 ((Go.Vk.Deed.sumI ((rs7.take i).map fun x : Gw => x.1.2)) + x9.1.2)), (10, Value.int .i64 i), (11, Value.int .i64 (cntK ((l.take k).map (ownersOf b day)) x9.1.1)), (12, Value.int .i64 k)]) (fun k w' => (k ≤ l.length) ∧ Own nob w w' [blk b4 [vm, vf] 25, pack [vec EGR vo7 rs7, pack ns7]]) 0 ⟨rfl, rfl, rfl, rfl, rfl, rfl, rfl, rfl, trivial⟩ ⟨Nat.zero_le _, (S1.take 2)⟩ ?_
  rintro k ρ w1b ⟨hk, S1b⟩ IHb
  refine r_seq ?_
  refine r_seq ?_
  refine r_region ?_
  refine l_m rfl ?_
  refine l_m rfl ?_
  refine l_x rfl (x_len (hF.le S1b.le) rfl Tryz.runUnderlying50) ?_
  refine l_x rfl (x_lss rfl rfl) ?_
  refine l_nil ?_
  refine r_ifd rfl (fun hc59 => ?_) (fun hc59 => ?_)
  ·skip
   obtain ⟨t, ht⟩ : ∃ t, l[k]? = some t := ⟨_, List.getElem?_eq_getElem (by omega)⟩
   refine r_skip ?_
   refine r_seq ?_
   refine r_block ?_
   refine r_seq ?_
   refine r_drawE 12 nob Tryz.mixed (by kernel_rfl) ?_
   intro w21 hl22
   have S23 := S1b.step hl22
   refine e_exact 0 _ (by kernel_rfl) rfl rfl (by kernel_rfl) rfl (ex_x rfl (fun w1 h1 => x_load rfl (ld_blks ((S23.step h1).blk 0 rfl) Tryz.isAgg25 Tryz.sizeOf25 rfl rfl))) ?_
   refine e_exact 1 _ (by kernel_rfl) rfl rfl (by kernel_rfl) rfl (ex_x rfl (fun w1 h1 => x_mv rfl)) ?_
   refine e_exact 2 _ (by kernel_rfl) rfl rfl (by kernel_rfl) rfl (ex_x rfl (fun w1 h1 => x_mv rfl)) ?_
   refine e_exact 3 _ (by kernel_rfl) rfl rfl (by kernel_rfl) rfl (ex_x rfl (fun w1 h1 => x_mv rfl)) ?_
   refine e_index ESG 4 (by kernel_rfl) rfl rfl (by kernel_rfl) rfl rfl (hF.le S23.le) rfl rfl Tryz.runUnderlying50 Tryz.sizeOf30 (by omega) ht ?_
   intro b24 o25 hat26
   refine e_exact 5 _ (by kernel_rfl) rfl rfl (by kernel_rfl) rfl (ex_x rfl (fun w1 h1 => x_load rfl (ld_row Tryz.isAgg30 Tryz.sizeOf30 rfl (rd_row (hF.le (S23.step h1).le) hat26 ht)))) ?_
   refine e_next [6] (by kernel_rfl) (by kernel_rfl) ⟨⟨_, _, rfl, rfl, ?_⟩, trivial⟩
   refine s_callf [] [] [_, _, _] rfl rfl Tryz.call40 rfl ((c_Owners b vm vf day t (hs t (List.mem_of_getElem? ht)) _ (hB.le S23.le)).mono ?_)
   rintro _ w27 (⟨e5, hne5, rfl, he5, hl6927⟩ | ⟨s5, rfl, ho5, hN6927, hl6927⟩)
   ·exact absurd (he5.trans (by rw [hfo.2 t (List.mem_of_getElem? ht)]; exact hop)) hne5
   have S28 := S23.add hl6927 hN6927
   refine ⟨.of_le hl6927, ?_⟩
   refine e_exact 7 _ (by kernel_rfl) rfl rfl (by kernel_rfl) rfl (ex_x rfl (fun w1 h1 => x_mv rfl)) ?_
   refine e_exact 8 _ (by kernel_rfl) rfl rfl (by kernel_rfl) rfl (ex_x rfl (fun w1 h1 => x_extract rfl rfl)) ?_
   refine e_exact 9 _ (by kernel_rfl) rfl rfl (by kernel_rfl) rfl (ex_x rfl (fun w1 h1 => x_extract rfl rfl)) ?_
   refine e_exact 10 _ (by kernel_rfl) rfl rfl (by kernel_rfl) rfl (ex_x rfl (fun w1 h1 => x_as rfl)) ?_
   refine e_exact 11 _ (by kernel_rfl) rfl rfl (by kernel_rfl) rfl (ex_x rfl (fun w1 h1 => x_as rfl)) ?_
   refine e_done (by kernel_rfl) ?_
   refine l_nil ?_
   refine r_seq ?_
   refine r_seq ?_
   refine r_region ?_
   refine l_m rfl ?_
   refine l_x rfl (x_neq rfl rfl) ?_
   refine l_nil ?_
   refine r_ifd rfl (fun hc73 => ?_) (fun hc73 => ?_)
   ·exact absurd rfl hc73
   refine r_skip ?_
   refine r_seq ?_
   refine r_region ?_
   refine l_m rfl ?_
   refine l_m rfl ?_
   refine l_m rfl ?_
   refine l_index EGR rfl (pk_grs (S28.at 1 rfl) hgo7).rd rfl rfl Tryz.runUnderlying85 Tryz.sizeOf91 (by omega) hx9 ?_
   intro b29 o30 hat31 row32
   refine l_x rfl (x_fieldAddr rfl Tryz.runUnderlying91 rfl Tryz.sizeOf52 (by decide)) ?_
   refine l_x rfl (x_load rfl (ld_cell Tryz.isAgg52 (row32 0 _ rfl))) ?_
   refine l_call [] [] [_, _] rfl rfl Tryz.call31 rfl (c_SameInts _ (ownersOf b day t) _ x9.1.1 (by have := ownersOf_len (b := b) (day := day) (t := t); omega) _ (vec_rd (S28.at 2 rfl)) ((pk_grs (S28.at 1 rfl) hgo7).sub x9 (List.mem_of_getElem? hx9))) ?_
   rintro _ w33 ⟨rfl, hl35⟩
   have S34 := S28.step hl35
   refine l_nil ?_
   refine r_if rfl (fun hc80 => ?_) (fun hc80 => ?_)
   ·skip
    refine r_region ?_
    refine l_m rfl ?_
    refine l_x rfl (x_add rfl rfl (by have := ck_bd (b := b) (day := day) (l := l) (k := k) (key := x9.1.1); omega)) ?_
    refine l_a rfl ?_
    refine l_nil ?_
    refine r_inBlock ?_
    refine r_region ?_
    refine l_m rfl ?_
    refine l_x rfl (x_add rfl rfl (by omega)) ?_
    refine l_a rfl ?_
    refine l_nil ?_
    exact IHb (k + 1) _ _ (by omega) ⟨rfl, rfl, rfl, rfl, rfl, rfl, (congrArg (Value.int .i64) (by rw [ck_step ht, if_pos (by simpa using hc80)])), rfl, trivial⟩ ⟨by omega, (S34.take 2)⟩
   refine r_skip ?_
   refine r_inBlock ?_
   refine r_region ?_
   refine l_m rfl ?_
   refine l_x rfl (x_add rfl rfl (by omega)) ?_
   refine l_a rfl ?_
   refine l_nil ?_
   exact IHb (k + 1) _ _ (by omega) ⟨rfl, rfl, rfl, rfl, rfl, rfl, (congrArg (Value.int .i64) (by rw [ck_step ht, if_neg (by simpa using hc80)]; omega)), rfl, trivial⟩ ⟨by omega, (S34.take 2)⟩
  obtain rfl : k = l.length := by omega
  rw [List.take_length] at *
  refine r_exit rfl ?_
  refine r_seq ?_
  refine r_seq ?_
  refine r_drawR 30 Tryz.mixed (by kernel_rfl) ?_
  refine w_x rfl (fun w1 h1 => x_mv rfl) ?_
  refine w_x rfl (fun w1 h1 => x_mv rfl) ?_
  refine w_x rfl (fun w1 h1 => x_mv rfl) ?_
  refine w_index EGR rfl (pk_grs (S1b.at 1 rfl) hgo7).rd rfl rfl Tryz.runUnderlying85 Tryz.sizeOf91 (by omega) hx9 ?_
  intro b36 o37 hat38 row39
  refine w_x rfl (fun w1 h1 => x_fieldAddr rfl Tryz.runUnderlying91 rfl Tryz.sizeOf3 (by decide)) ?_
  refine w_x rfl (fun w1 h1 => x_load rfl (ld_cell Tryz.isAgg3 ((row39.le h1) 1 _ rfl))) ?_
  refine w_x rfl (fun w1 h1 => x_neq rfl rfl) ?_
  refine w_x rfl (fun w1 h1 => x_mv rfl) ?_
  refine w_splitd (d := 90) rfl (fun hg90 => ?_) (fun hg90 => ?_)
  ·exact absurd hn9.1.symm (by simpa using hg90)
  refine w_x rfl (fun w1 h1 => x_mv rfl) ?_
  refine w_x rfl (fun w1 h1 => x_lss rfl rfl) ?_
  refine w_x rfl (fun w1 h1 => x_pick_f rfl rfl) ?_
  refine w_x rfl (fun w1 h1 => x_mv rfl) ?_
  refine w_splitd (d := 94) rfl (fun hg94 => ?_) (fun hg94 => ?_)
  ·exact absurd hg94 (by omega)
  refine w_x rfl (fun w1 h1 => x_mv rfl) ?_
  refine w_x rfl (fun w1 h1 => x_gtr rfl rfl) ?_
  refine w_x rfl (fun w1 h1 => x_mv rfl) ?_
  refine w_splitd (d := 97) rfl (fun hg97 => ?_) (fun hg97 => ?_)
  ·skip
   have h0i : 0 < i := by simpa using hg97
   obtain ⟨y9, hy9⟩ : ∃ y, rs7[i - 1]? = some y := ⟨_, List.getElem?_eq_getElem (by omega)⟩
   refine w_x rfl (fun w1 h1 => x_mv rfl) ?_
   refine w_x rfl (fun w1 h1 => x_mv rfl) ?_
   refine w_x rfl (fun w1 h1 => x_sub rfl rfl (by omega)) ?_
   refine w_index EGR rfl (pk_grs (S1b.at 1 rfl) hgo7).rd rfl rfl Tryz.runUnderlying85 Tryz.sizeOf91 (by omega) (by rw [show ((i : Int) - 1).toNat = i - 1 by omega]; exact hy9) ?_
   intro b40 o41 hat42 row43
   refine w_x rfl (fun w1 h1 => x_fieldAddr rfl Tryz.runUnderlying91 rfl Tryz.sizeOf52 (by decide)) ?_
   refine w_x rfl (fun w1 h1 => x_load rfl (ld_cell Tryz.isAgg52 ((row43.le h1) 0 _ rfl))) ?_
   refine w_x rfl (fun w1 h1 => x_mv rfl) ?_
   refine w_x rfl (fun w1 h1 => x_mv rfl) ?_
   refine w_index EGR rfl (pk_grs (S1b.at 1 rfl) hgo7).rd rfl rfl Tryz.runUnderlying85 Tryz.sizeOf91 (by omega) hx9 ?_
   intro b44 o45 hat46 row47
   refine w_x rfl (fun w1 h1 => x_fieldAddr rfl Tryz.runUnderlying91 rfl Tryz.sizeOf52 (by decide)) ?_
   refine w_x rfl (fun w1 h1 => x_load rfl (ld_cell Tryz.isAgg52 ((row47.le h1) 0 _ rfl))) ?_
   refine wd_call [] [] [_, _] rfl rfl Tryz.call63 rfl (fun w1 h1 => c_rLess y9.1.1 x9.1.1 _ _ (by have := hgs7.key (List.mem_of_getElem? hy9); omega) _ ((pk_grs ((S1b.step h1).at 1 rfl) hgo7).sub y9 (List.mem_of_getElem? hy9)) ((pk_grs ((S1b.step h1).at 1 rfl) hgo7).sub x9 (List.mem_of_getElem? hx9))) ?_
   refine w_x rfl (fun w1 h1 => x_not rfl) ?_
   refine w_x rfl (fun w1 h1 => x_pick_t rfl rfl) ?_
   refine w_x rfl (fun w1 h1 => x_pick_f rfl rfl) ?_
   refine w_nil ?_
   intro w48 hl49
   have S50 := S1b.step hl49
   refine l_nil ?_
   refine r_if rfl (fun hc112 => ?_) (fun hc112 => ?_)
   ·exact absurd (gi_less hI7 hy9 hx9 h0i) (by simpa using hc112)
   refine r_skip ?_
   refine r_seq ?_
   refine r_region ?_
   refine l_m rfl ?_
   refine l_m rfl ?_
   refine l_index EGR rfl (pk_grs (S50.at 1 rfl) hgo7).rd rfl rfl Tryz.runUnderlying85 Tryz.sizeOf91 (by omega) hx9 ?_
   intro b51 o52 hat53 row54
   refine l_x rfl (x_fieldAddr rfl Tryz.runUnderlying91 rfl Tryz.sizeOf52 (by decide)) ?_
   refine l_x rfl (x_load rfl (ld_cell Tryz.isAgg52 (row54 0 _ rfl))) ?_
   refine l_x rfl (x_len ((pk_grs (S50.at 1 rfl) hgo7).sub x9 (List.mem_of_getElem? hx9)) rfl Tryz.runUnderlying52) ?_
   refine l_x rfl (x_eql rfl rfl) ?_
   refine l_nil ?_
   refine r_ifd rfl (fun hc119 => ?_) (fun hc119 => ?_)
   ·skip
    obtain ⟨o9, ho9, hoo, hsn⟩ := gi_one hI7 hx9 (by omega)
    refine r_seq ?_
    refine r_drawE 18 nob Tryz.mixed (by kernel_rfl) ?_
    intro w55 hl56
    have S57 := S50.step hl56
    refine e_exact 0 _ (by kernel_rfl) rfl rfl (by kernel_rfl) rfl (ex_x rfl (fun w1 h1 => x_load rfl (ld_blks ((S57.step h1).blk 0 rfl) Tryz.isAgg25 Tryz.sizeOf25 rfl rfl))) ?_
    refine e_exact 1 _ (by kernel_rfl) rfl rfl (by kernel_rfl) rfl (ex_x rfl (fun w1 h1 => x_mv rfl)) ?_
    refine e_exact 2 _ (by kernel_rfl) rfl rfl (by kernel_rfl) rfl (ex_x rfl (fun w1 h1 => x_mv rfl)) ?_
    refine e_exact 3 _ (by kernel_rfl) rfl rfl (by kernel_rfl) rfl (ex_x rfl (fun w1 h1 => x_mv rfl)) ?_
    refine e_exact 4 _ (by kernel_rfl) rfl rfl (by kernel_rfl) rfl (ex_x rfl (fun w1 h1 => x_mv rfl)) ?_
    refine e_index EGR 5 (by kernel_rfl) rfl rfl (by kernel_rfl) rfl rfl (pk_grs (S57.at 1 rfl) hgo7).rd rfl rfl Tryz.runUnderlying85 Tryz.sizeOf91 (by omega) hx9 ?_
    intro b58 o59 hat60
    refine e_exact 6 _ (by kernel_rfl) rfl rfl (by kernel_rfl) rfl (ex_x rfl (fun w1 h1 => x_fieldAddr rfl Tryz.runUnderlying91 rfl Tryz.sizeOf52 (by decide))) ?_
    refine e_exact 7 _ (by kernel_rfl) rfl rfl (by kernel_rfl) rfl (ex_x rfl (fun w1 h1 => x_load rfl (ld_cell Tryz.isAgg52 ((rd_row (pk_grs ((S57.step h1).at 1 rfl) hgo7).rd hat60 hx9) 0 _ rfl)))) ?_
    refine e_index EI 8 (by kernel_rfl) rfl rfl (by kernel_rfl) rfl rfl ((pk_grs (S57.at 1 rfl) hgo7).sub x9 (List.mem_of_getElem? hx9)) rfl rfl Tryz.runUnderlying52 Tryz.sizeOf3 (by omega) ho9 ?_
    intro b61 o62 hat63
    refine e_exact 9 _ (by kernel_rfl) rfl rfl (by kernel_rfl) rfl (ex_x rfl (fun w1 h1 => x_load rfl (ld_cell Tryz.isAgg3 ((rd_row ((pk_grs ((S57.step h1).at 1 rfl) hgo7).sub x9 (List.mem_of_getElem? hx9)) hat63 ho9) 0 _ rfl)))) ?_
    refine e_next [10] (by kernel_rfl) (by kernel_rfl) ⟨⟨_, _, rfl, rfl, ?_⟩, trivial⟩
    refine s_callf [] [] [_, _, _, _] rfl rfl Tryz.call58 rfl ((c_Range b vm vf day l vs o9 (by omega) hs _ (hB.le S57.le) (hF.le S57.le)).mono ?_)
    rintro _ w64 (⟨e4, hne4, rfl, he4, hl13164⟩ | ⟨rfl, hr4, hl13164⟩)
    ·exact absurd (he4.trans (rg_ok hg7 hoo)) hne4
    have S65 := S57.step hl13164
    refine ⟨.of_le hl13164, ?_⟩
    refine e_exact 11 _ (by kernel_rfl) rfl rfl (by kernel_rfl) rfl (ex_x rfl (fun w1 h1 => x_mv rfl)) ?_
    refine e_exact 12 _ (by kernel_rfl) rfl rfl (by kernel_rfl) rfl (ex_x rfl (fun w1 h1 => x_extract rfl rfl)) ?_
    refine e_exact 13 _ (by kernel_rfl) rfl rfl (by kernel_rfl) rfl (ex_x rfl (fun w1 h1 => x_extract rfl rfl)) ?_
    refine e_exact 14 _ (by kernel_rfl) rfl rfl (by kernel_rfl) rfl (ex_x rfl (fun w1 h1 => x_extract rfl rfl)) ?_
    refine e_exact 15 _ (by kernel_rfl) rfl rfl (by kernel_rfl) rfl (ex_x rfl (fun w1 h1 => x_as rfl)) ?_
    refine e_exact 16 _ (by kernel_rfl) rfl rfl (by kernel_rfl) rfl (ex_x rfl (fun w1 h1 => x_as rfl)) ?_
    refine e_exact 17 _ (by kernel_rfl) rfl rfl (by kernel_rfl) rfl (ex_x rfl (fun w1 h1 => x_as rfl)) ?_
    refine e_done (by kernel_rfl) ?_
    refine l_nil ?_
    refine r_seq ?_
    refine r_region ?_
    refine l_m rfl ?_
    refine l_x rfl (x_neq rfl rfl) ?_
    refine l_m rfl ?_
    refine l_splitd (d := 137) rfl (fun hg137 => ?_) (fun hg137 => ?_)
    ·exact absurd rfl hg137
    refine l_m rfl ?_
    refine l_m rfl ?_
    refine l_x rfl (x_neq rfl rfl) ?_
    refine l_x rfl (x_pick_f rfl rfl) ?_
    refine l_nil ?_
    refine r_ifd rfl (fun hc141 => ?_) (fun hc141 => ?_)
    ·omega
    refine r_skip ?_
    refine r_inBlock ?_
    refine r_region ?_
    refine l_m rfl ?_
    refine l_x rfl (x_add rfl rfl (by omega)) ?_
    refine l_a rfl ?_
    refine l_nil ?_
    exact IH (i + 1) _ _ (by omega) ⟨rfl, rfl, rfl, rfl, (congrArg (Value.int .i64) hs8.symm), rfl, trivial⟩ ⟨by omega, (S65.take 2)⟩
   refine r_skip ?_
   refine r_inBlock ?_
   refine r_region ?_
   refine l_m rfl ?_
   refine l_x rfl (x_add rfl rfl (by omega)) ?_
   refine l_a rfl ?_
   refine l_nil ?_
   exact IH (i + 1) _ _ (by omega) ⟨rfl, rfl, rfl, rfl, (congrArg (Value.int .i64) hs8.symm), rfl, trivial⟩ ⟨by omega, (S50.take 2)⟩
  refine w_pass rfl ?_
  refine w_pass rfl ?_
  refine w_pass rfl ?_
  refine w_pass rfl ?_
  refine w_pass rfl ?_
  refine w_pass rfl ?_
  refine w_pass rfl ?_
  refine w_pass rfl ?_
  refine w_pass rfl ?_
  refine w_pass rfl ?_
  refine w_pass rfl ?_
  refine w_pass rfl ?_
  refine w_pass rfl ?_
  refine w_x rfl (fun w1 h1 => x_pick_f rfl rfl) ?_
  refine w_x rfl (fun w1 h1 => x_pick_f rfl rfl) ?_
  refine w_nil ?_
  intro w66 hl67
  have S68 := S1b.step hl67
  refine l_nil ?_
  refine r_false rfl ?_
  refine r_skip ?_
  refine r_seq ?_
  refine r_region ?_
  refine l_m rfl ?_
  refine l_m rfl ?_
  refine l_index EGR rfl (pk_grs (S68.at 1 rfl) hgo7).rd rfl rfl Tryz.runUnderlying85 Tryz.sizeOf91 (by omega) hx9 ?_
  intro b69 o70 hat71 row72
  refine l_x rfl (x_fieldAddr rfl Tryz.runUnderlying91 rfl Tryz.sizeOf52 (by decide)) ?_
  refine l_x rfl (x_load rfl (ld_cell Tryz.isAgg52 (row72 0 _ rfl))) ?_
  refine l_x rfl (x_len ((pk_grs (S68.at 1 rfl) hgo7).sub x9 (List.mem_of_getElem? hx9)) rfl Tryz.runUnderlying52) ?_
  refine l_x rfl (x_eql rfl rfl) ?_
  refine l_nil ?_
  refine r_ifd rfl (fun hc119 => ?_) (fun hc119 => ?_)
  ·skip
   obtain ⟨o9, ho9, hoo, hsn⟩ := gi_one hI7 hx9 (by omega)
   refine r_seq ?_
   refine r_drawE 18 nob Tryz.mixed (by kernel_rfl) ?_
   intro w73 hl74
   have S75 := S68.step hl74
   refine e_exact 0 _ (by kernel_rfl) rfl rfl (by kernel_rfl) rfl (ex_x rfl (fun w1 h1 => x_load rfl (ld_blks ((S75.step h1).blk 0 rfl) Tryz.isAgg25 Tryz.sizeOf25 rfl rfl))) ?_
   refine e_exact 1 _ (by kernel_rfl) rfl rfl (by kernel_rfl) rfl (ex_x rfl (fun w1 h1 => x_mv rfl)) ?_
   refine e_exact 2 _ (by kernel_rfl) rfl rfl (by kernel_rfl) rfl (ex_x rfl (fun w1 h1 => x_mv rfl)) ?_
   refine e_exact 3 _ (by kernel_rfl) rfl rfl (by kernel_rfl) rfl (ex_x rfl (fun w1 h1 => x_mv rfl)) ?_
   refine e_exact 4 _ (by kernel_rfl) rfl rfl (by kernel_rfl) rfl (ex_x rfl (fun w1 h1 => x_mv rfl)) ?_
   refine e_index EGR 5 (by kernel_rfl) rfl rfl (by kernel_rfl) rfl rfl (pk_grs (S75.at 1 rfl) hgo7).rd rfl rfl Tryz.runUnderlying85 Tryz.sizeOf91 (by omega) hx9 ?_
   intro b76 o77 hat78
   refine e_exact 6 _ (by kernel_rfl) rfl rfl (by kernel_rfl) rfl (ex_x rfl (fun w1 h1 => x_fieldAddr rfl Tryz.runUnderlying91 rfl Tryz.sizeOf52 (by decide))) ?_
   refine e_exact 7 _ (by kernel_rfl) rfl rfl (by kernel_rfl) rfl (ex_x rfl (fun w1 h1 => x_load rfl (ld_cell Tryz.isAgg52 ((rd_row (pk_grs ((S75.step h1).at 1 rfl) hgo7).rd hat78 hx9) 0 _ rfl)))) ?_
   refine e_index EI 8 (by kernel_rfl) rfl rfl (by kernel_rfl) rfl rfl ((pk_grs (S75.at 1 rfl) hgo7).sub x9 (List.mem_of_getElem? hx9)) rfl rfl Tryz.runUnderlying52 Tryz.sizeOf3 (by omega) ho9 ?_
   intro b79 o80 hat81
   refine e_exact 9 _ (by kernel_rfl) rfl rfl (by kernel_rfl) rfl (ex_x rfl (fun w1 h1 => x_load rfl (ld_cell Tryz.isAgg3 ((rd_row ((pk_grs ((S75.step h1).at 1 rfl) hgo7).sub x9 (List.mem_of_getElem? hx9)) hat81 ho9) 0 _ rfl)))) ?_
   refine e_next [10] (by kernel_rfl) (by kernel_rfl) ⟨⟨_, _, rfl, rfl, ?_⟩, trivial⟩
   refine s_callf [] [] [_, _, _, _] rfl rfl Tryz.call58 rfl ((c_Range b vm vf day l vs o9 (by omega) hs _ (hB.le S75.le) (hF.le S75.le)).mono ?_)
   rintro _ w82 (⟨e4, hne4, rfl, he4, hl13182⟩ | ⟨rfl, hr4, hl13182⟩)
   ·exact absurd (he4.trans (rg_ok hg7 hoo)) hne4
   have S83 := S75.step hl13182
   refine ⟨.of_le hl13182, ?_⟩
   refine e_exact 11 _ (by kernel_rfl) rfl rfl (by kernel_rfl) rfl (ex_x rfl (fun w1 h1 => x_mv rfl)) ?_
   refine e_exact 12 _ (by kernel_rfl) rfl rfl (by kernel_rfl) rfl (ex_x rfl (fun w1 h1 => x_extract rfl rfl)) ?_
   refine e_exact 13 _ (by kernel_rfl) rfl rfl (by kernel_rfl) rfl (ex_x rfl (fun w1 h1 => x_extract rfl rfl)) ?_
   refine e_exact 14 _ (by kernel_rfl) rfl rfl (by kernel_rfl) rfl (ex_x rfl (fun w1 h1 => x_extract rfl rfl)) ?_
   refine e_exact 15 _ (by kernel_rfl) rfl rfl (by kernel_rfl) rfl (ex_x rfl (fun w1 h1 => x_as rfl)) ?_
   refine e_exact 16 _ (by kernel_rfl) rfl rfl (by kernel_rfl) rfl (ex_x rfl (fun w1 h1 => x_as rfl)) ?_
   refine e_exact 17 _ (by kernel_rfl) rfl rfl (by kernel_rfl) rfl (ex_x rfl (fun w1 h1 => x_as rfl)) ?_
   refine e_done (by kernel_rfl) ?_
   refine l_nil ?_
   refine r_seq ?_
   refine r_region ?_
   refine l_m rfl ?_
   refine l_x rfl (x_neq rfl rfl) ?_
   refine l_m rfl ?_
   refine l_splitd (d := 137) rfl (fun hg137 => ?_) (fun hg137 => ?_)
   ·exact absurd rfl hg137
   refine l_m rfl ?_
   refine l_m rfl ?_
   refine l_x rfl (x_neq rfl rfl) ?_
   refine l_x rfl (x_pick_f rfl rfl) ?_
   refine l_nil ?_
   refine r_ifd rfl (fun hc141 => ?_) (fun hc141 => ?_)
   ·omega
   refine r_skip ?_
   refine r_inBlock ?_
   refine r_region ?_
   refine l_m rfl ?_
   refine l_x rfl (x_add rfl rfl (by omega)) ?_
   refine l_a rfl ?_
   refine l_nil ?_
   exact IH (i + 1) _ _ (by omega) ⟨rfl, rfl, rfl, rfl, (congrArg (Value.int .i64) hs8.symm), rfl, trivial⟩ ⟨by omega, (S83.take 2)⟩
  refine r_skip ?_
  refine r_inBlock ?_
  refine r_region ?_
  refine l_m rfl ?_
  refine l_x rfl (x_add rfl rfl (by omega)) ?_
  refine l_a rfl ?_
  refine l_nil ?_
  exact IH (i + 1) _ _ (by omega) ⟨rfl, rfl, rfl, rfl, (congrArg (Value.int .i64) hs8.symm), rfl, trivial⟩ ⟨by omega, (S68.take 2)⟩
 obtain rfl : i = rs7.length := by omega
 refine r_exit rfl ?_
 refine r_seq ?_
 refine r_region ?_
 refine l_call [] [] [] rfl rfl Tryz.call20 rfl (c_marked _ (hG.le S1.le)) ?_
 rintro _ w84 ⟨rfl, hl86⟩
 have S85 := S1.step hl86
 refine l_m rfl ?_
 refine l_m rfl ?_
 refine l_m rfl ?_
 refine l_x rfl (x_len (hF.le S85.le) rfl Tryz.runUnderlying50) ?_
 refine l_x rfl (x_eql rfl rfl) ?_
 refine l_x rfl (x_pick_t rfl rfl) ?_
 refine l_a rfl ?_
 refine l_nil ?_
 refine r_ret (rs := [.tmp 6]) [_] Tryz.func17 rfl ⟨rfl, trivial⟩ ?_
 exact ⟨congrArg Value.bool (decide_eq_true (gi_all hI7)), S85.le⟩

end Go.Proofs
