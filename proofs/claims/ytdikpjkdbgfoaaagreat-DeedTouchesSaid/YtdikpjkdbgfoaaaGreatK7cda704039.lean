/- Texts joined for claims: G14. -/
import Derived.Test.YtdikpjkdbgfoaaaGreatKc93b102ee0
import Derived.Test.YtdikpjkdbgfoaaaGreatKa4eab24274
set_option linter.unusedVariables false
set_option linter.unusedSimpArgs false
set_option linter.unusedSectionVars false
/-
  Contracts of functions of the program: each by symbolic execution of its text.
-/
namespace Go.Proofs
open Go Go.Vk Go.Vk.Flow

open Go.Vk.Deed
theorem ids_get9 {k : Nat} (h : k < 400) : ids[k]? = some ((k : Int) + 1) := by
  rw [ids, List.getElem?_map, List.getElem?_range h]; rfl
theorem ids_len9 : ids.length = 400 := by simp [ids]
theorem src_none {l : List D} {known day o : Int} (h : own o = false) : idsS (onD l known day) o = [] := by
  unfold idsS
  rw [List.filter_eq_nil_iff]
  intro i _
  have h0 : (onD l known day).src o i = 0 := by
    unfold onD
    split
    · next hR =>
      have := (play_okay (right_play (known := known) hR) (count_sorted hR) day).i.bal.z o i fun e => by rw [own_iff.2 e.1] at h; cases h
      exact this
    rfl
  rw [h0]; decide

set_option maxHeartbeats 4000000 in
/-- couchant/couchantref02.Source. -/
theorem c_rSource (rs : List Rw) (vl : Value) (known : Int) (day o : Int) (w : World) (hD : DsR 26 3 w vl rs) :
    Cl Tryz.prog 30 #[vl, .int .i64 known, .int .i64 day, .int .i64 o] w fun v w' => ∃ v1 v2, v = .tuple #[v1, v2] ∧ Own nob w w' [vec EI v1 (sourceD (dl rs) known day o).1, vec EI v2 (sourceD (dl rs) known day o).2] := by
  refine fn_of_run (args := [_, _, _, _]) 52 Tryz.func30 rfl rfl rfl fun cs => ?_
  have S := Own.start (X := nob) w
  refine r_seq ?_
  refine r_region ?_
  refine l_x rfl (x_as rfl) ?_
  refine l_x rfl (x_as rfl) ?_
  refine l_nil ?_
  refine r_seq ?_
  refine r_seq ?_
  refine r_region ?_
  refine l_x rfl (x_mv rfl) ?_
  refine l_call [] [] [_] rfl rfl Tryz.call86 rfl (c_rowner _ _) ?_
  rintro _ w1 ⟨rfl, hl3⟩
  have S2 := S.step hl3
  refine l_x rfl (x_not rfl) ?_
  refine l_nil ?_
  refine r_if rfl (fun hc16 => ?_) (fun hc16 => ?_)
  · skip
    have hno : own o = false := by simpa using hc16
    refine r_seq ?_
    refine r_region ?_
    refine l_x rfl (x_as rfl) ?_
    refine l_x rfl (x_as rfl) ?_
    refine l_nil ?_
    refine r_ret (rs := [.tmp 8, .tmp 9]) [_, _] Tryz.func30 rfl ⟨rfl, rfl, trivial⟩ ?_
    exact ⟨_, _, rfl, by unfold sourceD; rw [src_none hno]; exact Own.nilvec (Own.nilvec (S2.take 0))⟩
  have ho9 : own o = true := by simpa using hc16
  have ho1 := own_iff.1 ho9
  refine r_skip ?_
  refine r_seq ?_
  refine r_region ?_
  refine l_x rfl (x_mv rfl) ?_
  refine l_x rfl (x_mv rfl) ?_
  refine l_call [] [] [_, _] rfl rfl Tryz.call50 rfl (c_rCounting rs vl known _ (hD.le S2.le)) ?_
  rintro v194 w4 ⟨rq194, hq194, hm194, hN194, hl194⟩
  have S5 := S2.add hl194 hN194
  obtain ⟨rq, hrqe⟩ : ∃ q, q = rq194 := ⟨_, rfl⟩
  subst hrqe
  have hqq := hq194
  have hqm := hm194
  have hlq := ctg_len hqq
  obtain ⟨hqp, hqs⟩ := ctg_play hqq
  refine l_x rfl (x_mv rfl) ?_
  refine l_call [] [] [_, _] rfl rfl Tryz.call87 rfl (c_rplay rq _ day hqp hqs _ (hD.mem (S5).le (vec_rd ((S5).at 0 rfl)) hqm (by omega))) ?_
  rintro _ w6 ⟨bs, ns, ms, hms, rfl, hb8⟩
  have S7 := S5.join hb8
  obtain ⟨r, hO, S9⟩ := Own.stOpen (A := [_]) S7
  refine l_x rfl (x_as rfl) ?_
  refine l_nil ?_
  refine r_seq ?_
  refine r_region ?_
  refine l_x rfl (x_as rfl) ?_
  have S10 := S9.nilvec (E := EI)
  refine l_nil ?_
  refine r_seq ?_
  refine r_region ?_
  refine l_x rfl (x_as rfl) ?_
  have S11 := S10.nilvec (E := EI)
  refine l_nil ?_
  refine r_seq ?_
  refine r_seq ?_
  refine r_region ?_
  refine l_x rfl (x_as rfl) ?_
  refine l_nil ?_
  refine r_block ?_
  refine r_loop (G := Nat × Value × Value) (fun ⟨k, v1, v2⟩ => 400 - k) (fun ⟨k, v1, v2⟩ => [(3, .int .i64 o), (10, .pointer (some ⟨bs, 0, none⟩)), (11, v1), (12, v2), (13, .int .i64 ((k : Int) + 1))]) (fun ⟨k, v1, v2⟩ w' => (k ≤ 400) ∧ Own nob w w' [blk bs (stC r.h r.f ns.lv ns.pv ns.ev ns.iv) 108, vec EI v1 ((ids.take k).filter (fun i => decide (0 < ((doneD (dl rq) day).src o) i))), vec EI v2 (((ids.take k).filter (fun i => decide (0 < ((doneD (dl rq) day).src o) i))).map ((doneD (dl rq) day).src o))]) (0, .slice none 0 0, .slice none 0 0) ⟨rfl, rfl, rfl, rfl, rfl, trivial⟩ ⟨Nat.zero_le _, (S11.pick (L' := [_, _, _]) [1, 6, 7] (by decide) rfl)⟩ ?_
  rintro ⟨k, v1, v2⟩ ρ w1 ⟨hk, S1⟩ IH
  refine r_seq ?_
  refine r_seq ?_
  refine r_region ?_
  refine l_x rfl (x_mv rfl) ?_
  refine l_x rfl (x_leq rfl rfl) ?_
  refine l_nil ?_
  refine r_ifd rfl (fun hc23 => ?_) (fun hc23 => ?_)
  · skip
    have hsf : r.f (o.toNat * 401 + ((k : Int) + 1).toNat) = ((doneD (dl rq) day).src o) ((k : Int) + 1) := by have h9 := hO.f o.toNat ((k : Int) + 1).toNat (by omega) (by omega); rw [Int.toNat_of_nonneg (by omega), Int.toNat_of_nonneg (by omega)] at h9; exact h9
    have hfl : ((ids.take k).filter (fun i => decide (0 < ((doneD (dl rq) day).src o) i))).length ≤ 400 := Nat.le_trans (List.length_filter_le _ _) (by rw [List.length_take]; omega)
    refine r_skip ?_
    refine r_seq ?_
    refine r_block ?_
    refine r_seq ?_
    refine r_region ?_
    refine l_x rfl (x_mv rfl) ?_
    refine l_x rfl (x_mv rfl) ?_
    refine l_x rfl (x_mv rfl) ?_
    refine l_x rfl (x_nilCheck rfl) ?_
    refine l_x rfl (x_fieldAddr rfl Tryz.runUnderlying108 rfl Tryz.sizeOf105 (by decide)) ?_
    refine l_x rfl (x_indexAddr_array rfl rfl Tryz.runUnderlying105 Tryz.sizeOf103 (by omega)) ?_
    refine l_x rfl (x_indexAddr_array rfl rfl Tryz.runUnderlying103 Tryz.sizeOf3 (by omega)) ?_
    refine l_x rfl (x_load rfl (ld_blk (S1.blk 0 rfl) Tryz.isAgg3 (stF_get (by omega) (by omega)))) ?_
    refine l_x rfl (x_gtr rfl rfl) ?_
    refine l_nil ?_
    refine r_ifd rfl (fun hc34 => ?_) (fun hc34 => ?_)
    · skip
      refine r_seq ?_
      refine r_region ?_
      refine l_x rfl (x_mv rfl) ?_
      refine l_x rfl (x_mv rfl) ?_
      refine l_buildSlice EI [(k : Int) + 1] S1 rfl Tryz.runUnderlying24 Tryz.sizeOf3 Tryz.zeroValue3 rfl ⟨rfl, rfl, trivial⟩ (Nat.le_of_ble_eq_true rfl) ?_
      intro v15 w12 S13 hl14
      refine l_append EI S13 1 rfl rfl rfl rfl (vec_rd (S13.at 3 rfl)) Tryz.underlying24 info3 rfl rfl rfl (by rw [List.length_singleton]; unfold maxLen; omega) (by rw [List.length_singleton]; show _ * 8 ≤ _; omega) ?_
      intro v19 w16 S17 hk18 hv20
      refine l_x rfl (x_as rfl) ?_
      refine l_nil ?_
      refine r_region ?_
      refine l_x rfl (x_mv rfl) ?_
      refine l_x rfl (x_mv rfl) ?_
      refine l_x rfl (x_mv rfl) ?_
      refine l_x rfl (x_mv rfl) ?_
      refine l_x rfl (x_nilCheck rfl) ?_
      refine l_x rfl (x_fieldAddr rfl Tryz.runUnderlying108 rfl Tryz.sizeOf105 (by decide)) ?_
      refine l_x rfl (x_indexAddr_array rfl rfl Tryz.runUnderlying105 Tryz.sizeOf103 (by omega)) ?_
      refine l_x rfl (x_indexAddr_array rfl rfl Tryz.runUnderlying103 Tryz.sizeOf3 (by omega)) ?_
      refine l_x rfl (x_load rfl (ld_blk (S17.blk 0 rfl) Tryz.isAgg3 (stF_get (by omega) (by omega)))) ?_
      refine l_buildSlice EI [r.f (o.toNat * 401 + ((k : Int) + 1).toNat)] S17 rfl Tryz.runUnderlying24 Tryz.sizeOf3 Tryz.zeroValue3 rfl ⟨rfl, rfl, trivial⟩ (Nat.le_of_ble_eq_true rfl) ?_
      intro v24 w21 S22 hl23
      refine l_append EI S22 2 rfl rfl rfl rfl (vec_rd (S22.at 4 rfl)) Tryz.underlying24 info3 rfl rfl rfl (by rw [List.length_map, List.length_singleton]; unfold maxLen; omega) (by rw [List.length_map, List.length_singleton]; show _ * 8 ≤ _; omega) ?_
      intro v28 w25 S26 hk27 hv29
      refine l_x rfl (x_as rfl) ?_
      refine l_nil ?_
      refine r_inBlock ?_
      refine r_region ?_
      refine l_x rfl (x_mv rfl) ?_
      refine l_x rfl (x_add rfl rfl (by omega)) ?_
      refine l_x rfl (x_as rfl) ?_
      refine l_nil ?_
      exact IH (k + 1, v19, v28) _ _ (by dsimp only; omega) ⟨rfl, rfl, rfl, rfl, rfl, trivial⟩ ⟨by omega, (by rw [filter_step (ids_get9 (by omega)), if_pos (by simp only [decide_eq_true_eq]; rw [← hsf]; exact hc34)]; rw [List.map_append, List.map_cons, List.map_nil, ← hsf]; exact S26.take 3)⟩
    refine r_skip ?_
    refine r_inBlock ?_
    refine r_region ?_
    refine l_x rfl (x_mv rfl) ?_
    refine l_x rfl (x_add rfl rfl (by omega)) ?_
    refine l_x rfl (x_as rfl) ?_
    refine l_nil ?_
    exact IH (k + 1, v1, v2) _ _ (by dsimp only; omega) ⟨rfl, rfl, rfl, rfl, rfl, trivial⟩ ⟨by omega, (by rw [filter_step (ids_get9 (by omega)), if_neg (by simp only [decide_eq_true_eq]; rw [← hsf]; exact hc34)]; rw [List.append_nil]; exact S1.take 3)⟩
  obtain rfl : k = 400 := by omega
  refine r_exit rfl ?_
  refine r_seq ?_
  refine r_region ?_
  refine l_x rfl (x_mv rfl) ?_
  refine l_x rfl (x_mv rfl) ?_
  refine l_x rfl (x_as rfl) ?_
  refine l_x rfl (x_as rfl) ?_
  refine l_nil ?_
  refine r_ret (rs := [.tmp 8, .tmp 9]) [_, _] Tryz.func30 rfl ⟨rfl, rfl, trivial⟩ ?_
  have hN := S1.pick (L' := [_, _]) [1, 2] (by decide) rfl
  rw [List.take_of_length_le (by rw [ids_len9]; omega), ctg_on hqq] at hN
  exact ⟨_, _, rfl, hN⟩

theorem tou_none {l : List D} {a b day : Int} (h : rightD l = false) : touchedD l a b day = [] := by
  unfold touchedD
  rw [List.filter_eq_nil_iff]
  intro o _
  have e : ∀ k, accOf l k day o = ⟨0, 0, 0, 0, 0⟩ := fun k => by rw [accOf, if_neg (by rw [h]; simp)]
  unfold usesD
  rw [e, e]; simp

set_option maxHeartbeats 4000000 in
/-- couchant/couchantref02.Touched. -/
theorem c_rTouched (rs : List Rw) (vl : Value) (a b day : Int) (w : World) (hD : DsR 26 3 w vl rs) :
    Cl Tryz.prog 33 #[vl, .int .i64 a, .int .i64 b, .int .i64 day] w fun v w' => New w w' (vec EI v (touchedD (dl rs) a b day)) ∧ Le w w' := by
  have hfl := fun k => List.length_filter_le (touP (dl rs) a b day) (owners.take k)
  refine fn_of_run (args := [_, _, _, _]) 62 Tryz.func33 rfl rfl rfl fun cs => ?_
  have S := Own.start (X := nob) w
  refine r_seq ?_
  refine r_region ?_
  refine l_x rfl (x_as rfl) ?_
  refine l_nil ?_
  refine r_seq ?_
  refine r_region ?_
  refine l_x rfl (x_as rfl) ?_
  have S1 := S.nilvec (E := EI)
  refine l_nil ?_
  refine r_seq ?_
  refine r_seq ?_
  refine r_region ?_
  refine l_x rfl (x_mv rfl) ?_
  refine l_call [] [] [_] rfl rfl Tryz.call88 rfl (c_rright rs _ _ (hD.le S1.le)) ?_
  rintro _ w2 ⟨rfl, hl4⟩
  have S3 := S1.step hl4
  refine l_x rfl (x_not rfl) ?_
  refine l_nil ?_
  refine r_if rfl (fun hc17 => ?_) (fun hc17 => ?_)
  · skip
    refine r_seq ?_
    refine r_region ?_
    refine l_x rfl (x_as rfl) ?_
    refine l_nil ?_
    refine r_ret (rs := [.tmp 8]) [_] Tryz.func33 rfl ⟨rfl, trivial⟩ ?_
    exact ⟨by rw [show touchedD (dl rs) a b day = [] from tou_none (by simpa using hc17)]; exact New.nilvec .., S3.le⟩
  have hR : rightD (dl rs) = true := by simpa using hc17
  refine r_skip ?_
  refine r_seq ?_
  refine r_region ?_
  refine l_x rfl (x_mv rfl) ?_
  refine l_x rfl (x_mv rfl) ?_
  refine l_call [] [] [_, _] rfl rfl Tryz.call50 rfl (c_rCounting rs vl a _ (hD.le S3.le)) ?_
  rintro v205 w5 ⟨rq205, hq205, hm205, hN205, hl205⟩
  have S6 := S3.add hl205 hN205
  obtain ⟨rqP, hrqeP⟩ : ∃ q, q = rq205 := ⟨_, rfl⟩
  subst hrqeP
  have hqqP := hq205
  have hqmP := hm205
  have hlqP := ctg_len hqqP
  obtain ⟨hqpP, hqsP⟩ := ctg_play hqqP
  refine l_x rfl (x_mv rfl) ?_
  refine l_call [] [] [_, _] rfl rfl Tryz.call87 rfl (c_rplay rqP _ day hqpP hqsP _ (hD.mem (S6).le (vec_rd ((S6).at 1 rfl)) hqmP (by omega))) ?_
  rintro _ w7 ⟨bsP, nsP, msP, hmsP, rfl, hb9⟩
  have S8 := S6.join hb9
  refine l_x rfl (x_as rfl) ?_
  refine l_nil ?_
  refine r_seq ?_
  refine r_region ?_
  refine l_x rfl (x_mv rfl) ?_
  refine l_x rfl (x_mv rfl) ?_
  refine l_call [] [] [_, _] rfl rfl Tryz.call50 rfl (c_rCounting rs vl b _ (hD.le S8.le)) ?_
  rintro v2510 w10 ⟨rq2510, hq2510, hm2510, hN2510, hl2510⟩
  have S11 := S8.add hl2510 hN2510
  obtain ⟨rqQ, hrqeQ⟩ : ∃ q, q = rq2510 := ⟨_, rfl⟩
  subst hrqeQ
  have hqqQ := hq2510
  have hqmQ := hm2510
  have hlqQ := ctg_len hqqQ
  obtain ⟨hqpQ, hqsQ⟩ := ctg_play hqqQ
  refine l_x rfl (x_mv rfl) ?_
  refine l_call [] [] [_, _] rfl rfl Tryz.call87 rfl (c_rplay rqQ _ day hqpQ hqsQ _ (hD.mem (S11).le (vec_rd ((S11).at 3 rfl)) hqmQ (by omega))) ?_
  rintro _ w12 ⟨bsQ, nsQ, msQ, hmsQ, rfl, hb14⟩
  have S13 := S11.join hb14
  refine l_x rfl (x_as rfl) ?_
  refine l_nil ?_
  refine r_seq ?_
  refine r_seq ?_
  refine r_region ?_
  refine l_x rfl (x_as rfl) ?_
  refine l_nil ?_
  refine r_block ?_
  refine r_loop (G := Nat × Value) (fun ⟨k, vo⟩ => 40 - k) (fun ⟨k, vo⟩ => [(3, .int .i64 day), (9, vo), (10, .pointer (some ⟨bsP, 0, none⟩)), (11, .pointer (some ⟨bsQ, 0, none⟩)), (12, .int .i64 ((k : Int) + 1))]) (fun ⟨k, vo⟩ w' => (k ≤ 40) ∧ Own nob w w' [vec EI vo ((owners.take k).filter (touP (dl rs) a b day)), stS TS bsP nsP msP (doneD (dl rqP) day), stS TS bsQ nsQ msQ (doneD (dl rqQ) day)]) (0, .slice none 0 0) ⟨rfl, rfl, rfl, rfl, rfl, trivial⟩ ⟨Nat.zero_le _, (S13.pick (L' := [_, _, _]) [0, 2, 4] (by decide) rfl)⟩ ?_
  rintro ⟨k, vo⟩ ρ w1 ⟨hk, S1⟩ IH
  refine r_seq ?_
  refine r_seq ?_
  refine r_region ?_
  refine l_x rfl (x_mv rfl) ?_
  refine l_x rfl (x_leq rfl rfl) ?_
  refine l_nil ?_
  refine r_ifd rfl (fun hc29 => ?_) (fun hc29 => ?_)
  · skip
    have ho9 : own ((k : Int) + 1) = true := own_iff.2 (by omega)
    have eP : accOf (dl rs) a day ((k : Int) + 1) = acc (doneD (dl rqP) day) ((k : Int) + 1) day := by rw [accOf, if_pos ⟨ho9, hR⟩, ctg_on hqqP]
    have eQ : accOf (dl rs) b day ((k : Int) + 1) = acc (doneD (dl rqQ) day) ((k : Int) + 1) day := by rw [accOf, if_pos ⟨ho9, hR⟩, ctg_on hqqQ]
    have hb1 := accOf_bd (dl rs) a day ((k : Int) + 1)
    have hb2 := accOf_bd (dl rs) b day ((k : Int) + 1)
    have hu1 : usesD (dl rs) a day ((k : Int) + 1) = _ := rfl
    have hu2 : usesD (dl rs) b day ((k : Int) + 1) = _ := rfl
    unfold usesD at hu1 hu2
    rw [eP] at hb1 hu1
    rw [eQ] at hb2 hu2
    refine r_skip ?_
    refine r_seq ?_
    refine r_block ?_
    refine r_seq ?_
    refine r_region ?_
    refine l_x rfl (x_mv rfl) ?_
    refine l_x rfl (x_mv rfl) ?_
    refine l_x rfl (x_mv rfl) ?_
    refine l_call [] [] [_, _, _] rfl rfl Tryz.call89 rfl (c_raccount bsP nsP msP (doneD (dl rqP) day) hmsP ((k : Int) + 1) day (by omega) (play_okay hqpP hqsP day).b (play_okay hqpP hqsP day).n.ld _ (S1.ro 1 rfl)) ?_
    rintro _ w15 ⟨rfl, hl17⟩
    have S16 := S1.step hl17
    refine l_alloc S16 rfl Tryz.zeroValue66 rfl ?_
    intro b21 w18 S19 hl20
    refine l_stores (vs := [_, _, _, _, _]) S19 3 rfl rfl rfl rfl (ones_cons rfl (ones_cons rfl (ones_cons rfl (ones_cons rfl (ones_cons rfl ones_nil))))) Tryz.sizeOf66 (by first | exact Nat.le_refl _ | simp) (splice_all rfl) ?_
    intro w22 S23 hk24
    refine l_nil ?_
    refine r_seq ?_
    refine r_region ?_
    refine l_x rfl (x_mv rfl) ?_
    refine l_x rfl (x_mv rfl) ?_
    refine l_x rfl (x_mv rfl) ?_
    refine l_call [] [] [_, _, _] rfl rfl Tryz.call89 rfl (c_raccount bsQ nsQ msQ (doneD (dl rqQ) day) hmsQ ((k : Int) + 1) day (by omega) (play_okay hqpQ hqsQ day).b (play_okay hqpQ hqsQ day).n.ld _ (S23.ro 2 rfl)) ?_
    rintro _ w25 ⟨rfl, hl27⟩
    have S26 := S23.step hl27
    refine l_alloc S26 rfl Tryz.zeroValue66 rfl ?_
    intro b31 w28 S29 hl30
    refine l_stores (vs := [_, _, _, _, _]) S29 4 rfl rfl rfl rfl (ones_cons rfl (ones_cons rfl (ones_cons rfl (ones_cons rfl (ones_cons rfl ones_nil))))) Tryz.sizeOf66 (by first | exact Nat.le_refl _ | simp) (splice_all rfl) ?_
    intro w32 S33 hk34
    refine l_nil ?_
    refine r_seq ?_
    refine r_region ?_
    refine l_x rfl (x_fieldAddr rfl Tryz.runUnderlying66 rfl Tryz.sizeOf3 (by decide)) ?_
    refine l_x rfl (x_load rfl (ld_blk (S33.blk 3 rfl) Tryz.isAgg3 rfl)) ?_
    refine l_x rfl (x_fieldAddr rfl Tryz.runUnderlying66 rfl Tryz.sizeOf3 (by decide)) ?_
    refine l_x rfl (x_load rfl (ld_blk (S33.blk 3 rfl) Tryz.isAgg3 rfl)) ?_
    refine l_x rfl (x_sub rfl rfl (by omega)) ?_
    refine l_x rfl (x_fieldAddr rfl Tryz.runUnderlying66 rfl Tryz.sizeOf3 (by decide)) ?_
    refine l_x rfl (x_load rfl (ld_blk (S33.blk 3 rfl) Tryz.isAgg3 rfl)) ?_
    refine l_x rfl (x_add rfl rfl (by omega)) ?_
    refine l_x rfl (x_fieldAddr rfl Tryz.runUnderlying66 rfl Tryz.sizeOf3 (by decide)) ?_
    refine l_x rfl (x_load rfl (ld_blk (S33.blk 4 rfl) Tryz.isAgg3 rfl)) ?_
    refine l_x rfl (x_fieldAddr rfl Tryz.runUnderlying66 rfl Tryz.sizeOf3 (by decide)) ?_
    refine l_x rfl (x_load rfl (ld_blk (S33.blk 4 rfl) Tryz.isAgg3 rfl)) ?_
    refine l_x rfl (x_sub rfl rfl (by omega)) ?_
    refine l_x rfl (x_fieldAddr rfl Tryz.runUnderlying66 rfl Tryz.sizeOf3 (by decide)) ?_
    refine l_x rfl (x_load rfl (ld_blk (S33.blk 4 rfl) Tryz.isAgg3 rfl)) ?_
    refine l_x rfl (x_add rfl rfl (by omega)) ?_
    refine l_x rfl (x_neq rfl rfl) ?_
    refine l_nil ?_
    refine r_ifd rfl (fun hc56 => ?_) (fun hc56 => ?_)
    · skip
      refine r_region ?_
      refine l_x rfl (x_mv rfl) ?_
      refine l_x rfl (x_mv rfl) ?_
      refine l_buildSlice EI [(k : Int) + 1] S33 rfl Tryz.runUnderlying24 Tryz.sizeOf3 Tryz.zeroValue3 rfl ⟨rfl, rfl, trivial⟩ (Nat.le_of_ble_eq_true rfl) ?_
      intro v38 w35 S36 hl37
      refine l_append EI S36 0 rfl rfl rfl rfl (vec_rd (S36.at 5 rfl)) Tryz.underlying24 info3 rfl rfl rfl (by have := hfl k; rw [List.length_take] at this; unfold maxLen; rw [List.length_singleton]; omega) (by have := hfl k; rw [List.length_take] at this; rw [List.length_singleton]; show _ * 8 ≤ _; omega) ?_
      intro v42 w39 S40 hk41 hv43
      refine l_x rfl (x_as rfl) ?_
      refine l_nil ?_
      refine r_inBlock ?_
      refine r_region ?_
      refine l_x rfl (x_mv rfl) ?_
      refine l_x rfl (x_add rfl rfl (by omega)) ?_
      refine l_x rfl (x_as rfl) ?_
      refine l_nil ?_
      exact IH (k + 1, v42) _ _ (by dsimp only; omega) ⟨rfl, rfl, rfl, rfl, rfl, trivial⟩ ⟨by omega, (by rw [filter_step (owners_get (by omega)), if_pos (by simp only [touP, usesD, eP, eQ]; first | (simpa using hc56) | (simp_all; done))]; exact S40.take 3)⟩
    refine r_skip ?_
    refine r_inBlock ?_
    refine r_region ?_
    refine l_x rfl (x_mv rfl) ?_
    refine l_x rfl (x_add rfl rfl (by omega)) ?_
    refine l_x rfl (x_as rfl) ?_
    refine l_nil ?_
    exact IH (k + 1, vo) _ _ (by dsimp only; omega) ⟨rfl, rfl, rfl, rfl, rfl, trivial⟩ ⟨by omega, (by rw [filter_step (owners_get (by omega)), if_neg (by simp only [touP, usesD, eP, eQ]; first | (simpa using hc56) | (simp_all; done))]; rw [List.append_nil]; exact S33.take 3)⟩
  obtain rfl : k = 40 := by omega
  refine r_exit rfl ?_
  refine r_seq ?_
  refine r_region ?_
  refine l_x rfl (x_mv rfl) ?_
  refine l_x rfl (x_as rfl) ?_
  refine l_nil ?_
  refine r_ret (rs := [.tmp 8]) [_] Tryz.func33 rfl ⟨rfl, trivial⟩ ?_
  have hN := S1.new 0 rfl
  rw [List.take_of_length_le (by rw [owners_len]; omega)] at hN
  exact ⟨hN, S1.le⟩

end Go.Proofs
