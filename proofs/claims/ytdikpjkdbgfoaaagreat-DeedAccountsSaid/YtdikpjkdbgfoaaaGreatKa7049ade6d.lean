/- Texts joined for claims: G12. -/
import Derived.Test.YtdikpjkdbgfoaaaGreatKe75dde5f1f
import Derived.Test.YtdikpjkdbgfoaaaGreatK35286b4c24
import Derived.Test.YtdikpjkdbgfoaaaGreatK2e8c837484
set_option linter.unusedVariables false
set_option linter.unusedSimpArgs false
set_option linter.unusedSectionVars false
/-
  Contracts of functions of the program: each by symbolic execution of its text.
-/
namespace Go.Proofs
open Go Go.Vk Go.Vk.Flow

open Go.Vk.Deed
/-- What the deeds make is in order. -/
structure PlayOk (l : List D) (day : Int) : Prop where
  i : StI (doneD l day) (l.filter fun x => decide (x.day ≤ day))
  b : StB (doneD l day)
  n : NN (doneD l day) day
theorem play_okay {l : List D} (hP : PlayL l) (hs : l.Pairwise fun a b => a.day ≤ b.day) (day : Int) : PlayOk l day := by
  have hPf : PlayL (l.filter fun x => decide (x.day ≤ day)) := hP.filter _
  have hI := play_inv _ rfl hPf
  exact ⟨hI, hI.stb hPf.e hPf.len, play_nn _ rfl hPf (hs.filter _) day fun x hx => by simpa using (List.mem_filter.1 hx).2⟩
theorem playl_nil : PlayL [] := ⟨nofun, nofun, List.nodup_nil, by simp [enters, sumI], Nat.zero_le _⟩
theorem ctg_play {l c : List D} {known : Int} (h : c = if rightD l = true then counting l known else []) : PlayL c ∧ c.Pairwise fun a b => a.day ≤ b.day := by
  subst h
  split
  · next hR => exact ⟨right_play hR, count_sorted hR⟩
  exact ⟨playl_nil, .nil⟩
theorem ctg_on {l c : List D} {known day : Int} (h : c = if rightD l = true then counting l known else []) : doneD c day = onD l known day := by
  subst h
  unfold onD
  split <;> rfl
theorem ctg_len {l : List D} {rq : List Rw} {known : Int} (h : dl rq = if rightD l = true then counting l known else []) : rq.length ≤ 400 := by
  have := (ctg_play h).1.len
  rwa [dl_len] at this
theorem acc_step9 {s : St} {day : Int} {k : Nat} (h : k < 40) : ((owners.take (k + 1)).map fun o => acc s o day).filter (fun a : Acc => decide (a ≠ ⟨a.owner, 0, 0, 0, 0⟩)) =
    ((owners.take k).map fun o => acc s o day).filter (fun a : Acc => decide (a ≠ ⟨a.owner, 0, 0, 0, 0⟩)) ++ if acc s ((k : Int) + 1) day = ⟨(k : Int) + 1, 0, 0, 0, 0⟩ then [] else [acc s ((k : Int) + 1) day] := by
  rw [List.take_add_one, owners_get h, List.map_append, List.filter_append]
  congr 1
  show [acc s ((k : Int) + 1) day].filter _ = _
  by_cases e : acc s ((k : Int) + 1) day = ⟨(k : Int) + 1, 0, 0, 0, 0⟩
  · rw [if_pos e, List.filter_cons_of_neg (by simp [acc] at e ⊢; exact e)]; rfl
  rw [if_neg e, List.filter_cons_of_pos (p := fun a : Acc => decide (a ≠ ⟨a.owner, 0, 0, 0, 0⟩)) (decide_eq_true e)]; rfl
theorem acc_len9 {s : St} {day : Int} (k : Nat) : (((owners.take k).map fun o => acc s o day).filter (fun a : Acc => decide (a ≠ ⟨a.owner, 0, 0, 0, 0⟩))).length ≤ 40 :=
  Nat.le_trans (List.length_filter_le _ _) (by rw [List.length_map, List.length_take, owners_len]; omega)
theorem accs_sum (s : St) (day : Int) : sumI ((accs s day).map (·.holds)) = sumI (owners.map s.holds) := by
  unfold accs
  generalize owners = L
  induction L with
  | nil => rfl
  | cons o L ih =>
    rw [List.map_cons, List.filter_cons, List.map_cons, sumI_cons]
    split
    · rw [List.map_cons, sumI_cons, ih]; rfl
    next g =>
    simp only [decide_eq_true_eq, ne_eq, Decidable.not_not] at g
    have : s.holds o = 0 := congrArg Acc.holds g
    rw [ih, this]; omega

set_option maxHeartbeats 4000000 in
/-- couchant/couchantref02.account. -/
theorem c_raccount (b : Nat) (n : SNm) (m : Nat) (s : St) (hm : m ≤ 400) (o day : Int) (ho : 1 ≤ o ∧ o ≤ 40) (hB : StB s) (hld : ∀ x ∈ s.leases, x.day ≤ day) (w : World) (h0 : RO (stS TS b n m s) w) :
    Cl Tryz.prog 89 #[.pointer (some ⟨b, 0, none⟩), .int .i64 o, .int .i64 day] w fun v w' => v = .agg (encAc (acc s o day)).toArray ∧ Le w w' := by
  obtain ⟨r, hR⟩ := StRO.of h0
  have hO := hR.ok
  have hll := r_ll hO hB
  have hpl := hO.pl
  have hel := hO.e
  have hib := fun k => rinn_bd (o := o) (day := day) hO hB k
  have hh := hO.h o.toNat (by omega)
  rw [Int.toNat_of_nonneg (by omega)] at hh
  refine fn_of_run (args := [_, _, _]) 70 Tryz.func89 rfl rfl rfl fun cs => ?_
  have S := Own.start (X := nob) w
  refine r_seq ?_
  refine r_region ?_
  refine l_alloc S rfl Tryz.zeroValue66 rfl ?_
  intro b4 w1 S2 hl3
  refine l_nil ?_
  refine r_seq ?_
  refine r_region ?_
  refine l_x rfl (x_mv rfl) ?_
  refine l_x rfl (x_mv rfl) ?_
  refine l_x rfl (x_mv rfl) ?_
  refine l_call [] [] [_, _, _] rfl rfl Tryz.call137 rfl (c_rbound b n m s hm o day hB hld _ (h0.le S2.le)) ?_
  rintro _ w5 ⟨rfl, hl7⟩
  have S6 := S2.step hl7
  refine l_x rfl (x_mv rfl) ?_
  refine l_x rfl (x_extract rfl rfl) ?_
  refine l_x rfl (x_extract rfl rfl) ?_
  refine l_x rfl (x_as rfl) ?_
  refine l_x rfl (x_as rfl) ?_
  refine l_nil ?_
  refine r_seq ?_
  refine r_region ?_
  refine l_x rfl (x_as rfl) ?_
  refine l_nil ?_
  refine r_seq ?_
  refine r_seq ?_
  refine r_region ?_
  refine l_x rfl (x_as rfl) ?_
  refine l_nil ?_
  refine r_block ?_
  refine r_loop (G := Nat) (fun i => r.ls.length - i) (fun i => [(0, .pointer (some ⟨b, 0, none⟩)), (1, .int .i64 o), (2, .int .i64 day), (6, .pointer (some ⟨b4, 0, none⟩)), (7, .int .i64 (pledged s o)), (8, .int .i64 (outS s o day)), (9, .int .i64 (rinn r o day i)), (10, .int .i64 i)]) (fun i w' => (i ≤ r.ls.length) ∧ Own nob w w' [blk b4 [.int .i64 0, .int .i64 0, .int .i64 0, .int .i64 0, .int .i64 0] 66]) 0 ⟨rfl, rfl, rfl, rfl, rfl, rfl, (congrArg (Value.int .i64) (by simp [rinn, sumI])), rfl, trivial⟩ ⟨Nat.zero_le _, (S6.take 1)⟩ ?_
  rintro i ρ w1 ⟨hi, S1⟩ IH
  refine r_seq ?_
  refine r_seq ?_
  refine r_region ?_
  refine l_x rfl (x_mv rfl) ?_
  refine l_x rfl (x_mv rfl) ?_
  refine l_x rfl (x_nilCheck rfl) ?_
  refine l_x rfl (x_fieldAddr rfl Tryz.runUnderlying108 rfl Tryz.sizeOf78 (by decide)) ?_
  refine l_x rfl (x_load rfl (ld_blk (hR.blk.keep S1.le id) Tryz.isAgg78 stL_get)) ?_
  refine l_x rfl (x_len (hR.lm.le S1.le) rfl Tryz.runUnderlying78) ?_
  refine l_x rfl (x_lss rfl rfl) ?_
  refine l_nil ?_
  refine r_ifd rfl (fun hc24 => ?_) (fun hc24 => ?_)
  · skip
    obtain ⟨x, hx⟩ : ∃ x, r.ls[i]? = some x := ⟨_, List.getElem?_eq_getElem (by omega)⟩
    have hxb := r_lp hO hB (List.mem_of_getElem? hx)
    have hp1 := hib i
    have hp2 := hib (i + 1)
    rw [rinn_step hx] at hp2
    refine r_skip ?_
    refine r_seq ?_
    refine r_block ?_
    refine r_seq ?_
    refine r_region ?_
    refine l_x rfl (x_mv rfl) ?_
    refine l_x rfl (x_nilCheck rfl) ?_
    refine l_x rfl (x_fieldAddr rfl Tryz.runUnderlying108 rfl Tryz.sizeOf78 (by decide)) ?_
    refine l_x rfl (x_load rfl (ld_blk (hR.blk.keep S1.le id) Tryz.isAgg78 stL_get)) ?_
    refine l_x rfl (x_mv rfl) ?_
    refine l_index ELZ rfl (hR.lm.le S1.le) rfl rfl Tryz.runUnderlying78 Tryz.sizeOf84 (by omega) hx ?_
    intro b8 o9 hat10 row11
    refine l_x rfl (x_fieldAddr rfl Tryz.runUnderlying84 rfl Tryz.sizeOf3 (by decide)) ?_
    refine l_x rfl (x_load rfl (ld_cell Tryz.isAgg3 (row11 2 _ rfl))) ?_
    refine l_x rfl (x_mv rfl) ?_
    refine l_x rfl (x_eql rfl rfl) ?_
    refine l_x rfl (x_mv rfl) ?_
    refine l_splitd (d := 37) rfl (fun hg37 => ?_) (fun hg37 => ?_)
    · skip
      refine l_x rfl (x_mv rfl) ?_
      refine l_x rfl (x_nilCheck rfl) ?_
      refine l_x rfl (x_fieldAddr rfl Tryz.runUnderlying108 rfl Tryz.sizeOf78 (by decide)) ?_
      refine l_x rfl (x_load rfl (ld_blk (hR.blk.keep S1.le id) Tryz.isAgg78 stL_get)) ?_
      refine l_x rfl (x_mv rfl) ?_
      refine l_index ELZ rfl (hR.lm.le S1.le) rfl rfl Tryz.runUnderlying78 Tryz.sizeOf84 (by omega) hx ?_
      intro b12 o13 hat14 row15
      refine l_x rfl (x_fieldAddr rfl Tryz.runUnderlying84 rfl Tryz.sizeOf3 (by decide)) ?_
      refine l_x rfl (x_load rfl (ld_cell Tryz.isAgg3 (row15 4 _ rfl))) ?_
      refine l_x rfl (x_mv rfl) ?_
      refine l_x rfl (x_geq rfl rfl) ?_
      refine l_x rfl (x_pick_t rfl rfl) ?_
      refine l_nil ?_
      refine r_ifd rfl (fun hc48 => ?_) (fun hc48 => ?_)
      · skip
        refine r_region ?_
        refine l_x rfl (x_mv rfl) ?_
        refine l_x rfl (x_mv rfl) ?_
        refine l_x rfl (x_nilCheck rfl) ?_
        refine l_x rfl (x_fieldAddr rfl Tryz.runUnderlying108 rfl Tryz.sizeOf78 (by decide)) ?_
        refine l_x rfl (x_load rfl (ld_blk (hR.blk.keep S1.le id) Tryz.isAgg78 stL_get)) ?_
        refine l_x rfl (x_mv rfl) ?_
        refine l_index ELZ rfl (hR.lm.le S1.le) rfl rfl Tryz.runUnderlying78 Tryz.sizeOf84 (by omega) hx ?_
        intro b16 o17 hat18 row19
        refine l_x rfl (x_fieldAddr rfl Tryz.runUnderlying84 rfl Tryz.sizeOf3 (by decide)) ?_
        refine l_x rfl (x_load rfl (ld_cell Tryz.isAgg3 (row19 3 _ rfl))) ?_
        refine l_x rfl (x_add rfl rfl (by rw [if_pos ⟨hg37, by omega⟩] at hp2; omega)) ?_
        refine l_x rfl (x_as rfl) ?_
        refine l_nil ?_
        refine r_inBlock ?_
        refine r_region ?_
        refine l_x rfl (x_mv rfl) ?_
        refine l_x rfl (x_add rfl rfl (by omega)) ?_
        refine l_x rfl (x_as rfl) ?_
        refine l_nil ?_
        exact IH (i + 1) _ _ (by omega) ⟨rfl, rfl, rfl, rfl, rfl, rfl, (congrArg (Value.int .i64) (by rw [rinn_step hx, if_pos ⟨hg37, by omega⟩])), rfl, trivial⟩ ⟨by omega, (S1.take 1)⟩
      refine r_skip ?_
      refine r_inBlock ?_
      refine r_region ?_
      refine l_x rfl (x_mv rfl) ?_
      refine l_x rfl (x_add rfl rfl (by omega)) ?_
      refine l_x rfl (x_as rfl) ?_
      refine l_nil ?_
      exact IH (i + 1) _ _ (by omega) ⟨rfl, rfl, rfl, rfl, rfl, rfl, (congrArg (Value.int .i64) (by rw [rinn_step hx, if_neg (by omega), Int.add_zero])), rfl, trivial⟩ ⟨by omega, (S1.take 1)⟩
    refine l_pass rfl ?_
    refine l_pass rfl ?_
    refine l_pass rfl ?_
    refine l_pass rfl ?_
    refine l_pass rfl ?_
    refine l_pass rfl ?_
    refine l_pass rfl ?_
    refine l_pass rfl ?_
    refine l_pass rfl ?_
    refine l_pass rfl ?_
    refine l_x rfl (x_pick_f rfl rfl) ?_
    refine l_nil ?_
    refine r_false rfl ?_
    refine r_skip ?_
    refine r_inBlock ?_
    refine r_region ?_
    refine l_x rfl (x_mv rfl) ?_
    refine l_x rfl (x_add rfl rfl (by omega)) ?_
    refine l_x rfl (x_as rfl) ?_
    refine l_nil ?_
    exact IH (i + 1) _ _ (by omega) ⟨rfl, rfl, rfl, rfl, rfl, rfl, (congrArg (Value.int .i64) (by rw [rinn_step hx, if_neg (fun h => hg37 h.1), Int.add_zero])), rfl, trivial⟩ ⟨by omega, (S1.take 1)⟩
  obtain rfl : i = r.ls.length := by omega
  have hia := rinn_all (o := o) hO hld (Nat.le_refl _)
  have hac : acc s o day = ⟨o, r.h o.toNat, pledged s o, outS s o day, rinn r o day r.ls.length⟩ := by unfold acc; rw [hh, hia]
  refine r_exit rfl ?_
  refine r_seq ?_
  refine r_region ?_
  refine l_x rfl (x_mv rfl) ?_
  refine l_x rfl (x_mv rfl) ?_
  refine l_x rfl (x_mv rfl) ?_
  refine l_x rfl (x_nilCheck rfl) ?_
  refine l_x rfl (x_fieldAddr rfl Tryz.runUnderlying108 rfl Tryz.sizeOf104 (by decide)) ?_
  refine l_x rfl (x_indexAddr_array rfl rfl Tryz.runUnderlying104 Tryz.sizeOf3 (by omega)) ?_
  refine l_x rfl (x_load rfl (ld_blk (hR.blk.keep S1.le id) Tryz.isAgg3 (stH_get (by omega)))) ?_
  refine l_x rfl (x_mv rfl) ?_
  refine l_x rfl (x_mv rfl) ?_
  refine l_x rfl (x_mv rfl) ?_
  refine l_x rfl (x_buildS (out := [_, _, _, _, _]) (ss := [1, 1, 1, 1, 1]) Tryz.zeroValue66 rfl Tryz.runUnderlying66 ⟨Tryz.sizeOf3, Tryz.sizeOf3, Tryz.sizeOf3, Tryz.sizeOf3, Tryz.sizeOf3, trivial⟩ (fill_cons rfl rfl rfl (Nat.le_of_ble_eq_true rfl) (fill_cons rfl rfl rfl (Nat.le_of_ble_eq_true rfl) (fill_cons rfl rfl rfl (Nat.le_of_ble_eq_true rfl) (fill_cons rfl rfl rfl (Nat.le_of_ble_eq_true rfl) (fill_cons rfl rfl rfl (Nat.le_of_ble_eq_true rfl) fill_nil)))))) ?_
  refine l_stores (vs := [_, _, _, _, _]) S1 0 rfl rfl rfl rfl (ones_cons rfl (ones_cons rfl (ones_cons rfl (ones_cons rfl (ones_cons rfl ones_nil))))) Tryz.sizeOf66 (by first | exact Nat.le_refl _ | simp) (splice_all rfl) ?_
  intro w20 S21 hk22
  refine l_nil ?_
  refine r_ret (rs := [.cell 6 66]) [_] Tryz.func89 rfl ⟨⟨_, rfl, (ld_blks (S21.blk 0 rfl) Tryz.isAgg66 Tryz.sizeOf66 rfl rfl)⟩, trivial⟩ ?_
  exact ⟨by rw [hac]; rfl, S21.le⟩

set_option maxHeartbeats 4000000 in
/-- couchant/couchantref02.accounts. -/
theorem c_raccounts (rs : List Rw) (vl : Value) (day : Int) (hP : PlayL (dl rs)) (hs : (dl rs).Pairwise fun a b => a.day ≤ b.day) (w : World) (hD : DsR 26 3 w vl rs) :
    Cl Tryz.prog 119 #[vl, .int .i64 day] w fun v w' => New w w' (vec EAC v (accs (doneD (dl rs) day) day)) ∧ Le w w' := by
  have hk := play_okay hP hs day
  refine fn_of_run (args := [_, _]) 29 Tryz.func119 rfl rfl rfl fun cs => ?_
  have S := Own.start (X := nob) w
  refine r_seq ?_
  refine r_region ?_
  refine l_x rfl (x_as rfl) ?_
  refine l_nil ?_
  refine r_seq ?_
  refine r_region ?_
  refine l_x rfl (x_mv rfl) ?_
  refine l_x rfl (x_mv rfl) ?_
  refine l_call [] [] [_, _] rfl rfl Tryz.call87 rfl (c_rplay rs vl day hP hs _ (hD.le S.le)) ?_
  rintro _ w1 ⟨bs, ns, ms, hms, rfl, hb3⟩
  have S2 := S.join hb3
  refine l_x rfl (x_as rfl) ?_
  refine l_nil ?_
  refine r_seq ?_
  refine r_region ?_
  refine l_x rfl (x_as rfl) ?_
  have S4 := S2.nilvec (E := EAC)
  refine l_nil ?_
  refine r_seq ?_
  refine r_seq ?_
  refine r_region ?_
  refine l_x rfl (x_as rfl) ?_
  refine l_nil ?_
  refine r_block ?_
  refine r_loop (G := Nat × Value) (fun ⟨k, vo⟩ => 40 - k) (fun ⟨k, vo⟩ => [(1, .int .i64 day), (5, .pointer (some ⟨bs, 0, none⟩)), (6, vo), (7, .int .i64 ((k : Int) + 1))]) (fun ⟨k, vo⟩ w' => (k ≤ 40) ∧ Own nob w w' [stS TS bs ns ms (doneD (dl rs) day), vec EAC vo (((owners.take k).map fun o => acc (doneD (dl rs) day) o day).filter fun a : Acc => decide (a ≠ ⟨a.owner, 0, 0, 0, 0⟩))]) (0, .slice none 0 0) ⟨rfl, rfl, rfl, rfl, trivial⟩ ⟨Nat.zero_le _, (S4.take 2)⟩ ?_
  rintro ⟨k, vo⟩ ρ w1 ⟨hk4, S1⟩ IH
  refine r_seq ?_
  refine r_seq ?_
  refine r_region ?_
  refine l_x rfl (x_mv rfl) ?_
  refine l_x rfl (x_leq rfl rfl) ?_
  refine l_nil ?_
  refine r_ifd rfl (fun hc13 => ?_) (fun hc13 => ?_)
  · skip
    have hal := acc_len9 (s := doneD (dl rs) day) (day := day) k
    have hst := acc_step9 (s := doneD (dl rs) day) (day := day) (k := k) (by omega)
    refine r_skip ?_
    refine r_seq ?_
    refine r_block ?_
    refine r_seq ?_
    refine r_region ?_
    refine l_x rfl (x_mv rfl) ?_
    refine l_x rfl (x_mv rfl) ?_
    refine l_x rfl (x_mv rfl) ?_
    refine l_call [] [] [_, _, _] rfl rfl Tryz.call89 rfl (c_raccount bs ns ms (doneD (dl rs) day) hms ((k : Int) + 1) day (by omega) hk.b hk.n.ld _ (S1.ro 0 rfl)) ?_
    rintro _ w5 ⟨rfl, hl7⟩
    have S6 := S1.step hl7
    refine l_alloc S6 rfl Tryz.zeroValue66 rfl ?_
    intro b11 w8 S9 hl10
    refine l_stores (vs := [_, _, _, _, _]) S9 2 rfl rfl rfl rfl (ones_cons rfl (ones_cons rfl (ones_cons rfl (ones_cons rfl (ones_cons rfl ones_nil))))) Tryz.sizeOf66 (by first | exact Nat.le_refl _ | simp) (splice_all rfl) ?_
    intro w12 S13 hk14
    refine l_nil ?_
    refine r_seq ?_
    refine r_region ?_
    refine l_x rfl (x_load rfl (ld_blks (S13.blk 2 rfl) Tryz.isAgg66 Tryz.sizeOf66 rfl rfl)) ?_
    refine l_x rfl (x_mv rfl) ?_
    refine l_x rfl (x_buildS (out := [_, _, _, _, _]) (ss := [1, 1, 1, 1, 1]) Tryz.zeroValue66 rfl Tryz.runUnderlying66 ⟨Tryz.sizeOf3, Tryz.sizeOf3, Tryz.sizeOf3, Tryz.sizeOf3, Tryz.sizeOf3, trivial⟩ (fill_cons rfl rfl rfl (Nat.le_of_ble_eq_true rfl) fill_nil)) ?_
    refine l_x rfl (x_neAc (a := acc (doneD (dl rs) day) ((k : Int) + 1) day) (b := ⟨(k : Int) + 1, 0, 0, 0, 0⟩) rfl rfl) ?_
    refine l_nil ?_
    refine r_ifd rfl (fun hc23 => ?_) (fun hc23 => ?_)
    · skip
      refine r_region ?_
      refine l_x rfl (x_mv rfl) ?_
      refine l_x rfl (x_load rfl (ld_blks (S13.blk 2 rfl) Tryz.isAgg66 Tryz.sizeOf66 rfl rfl)) ?_
      refine l_buildSlice EAC [acc (doneD (dl rs) day) ((k : Int) + 1) day] S13 rfl Tryz.runUnderlying74 Tryz.sizeOf66 Tryz.zeroValue66 rfl ⟨rfl, rfl, trivial⟩ (Nat.le_of_ble_eq_true rfl) ?_
      intro v18 w15 S16 hl17
      refine l_append EAC S16 1 rfl rfl rfl rfl (vec_rd (S16.at 3 rfl)) Tryz.underlying74 info66 rfl rfl rfl (by unfold maxLen; simp only [List.length_singleton]; omega) (by show _ * 40 ≤ _; simp only [List.length_singleton]; omega) ?_
      intro v22 w19 S20 hk21 hv23
      refine l_x rfl (x_as rfl) ?_
      refine l_nil ?_
      refine r_inBlock ?_
      refine r_region ?_
      refine l_x rfl (x_mv rfl) ?_
      refine l_x rfl (x_add rfl rfl (by omega)) ?_
      refine l_x rfl (x_as rfl) ?_
      refine l_nil ?_
      exact IH (k + 1, v22) _ _ (by dsimp only; omega) ⟨rfl, rfl, rfl, rfl, trivial⟩ ⟨by omega, (by rw [hst, if_neg hc23]; exact S20.take 2)⟩
    refine r_skip ?_
    refine r_inBlock ?_
    refine r_region ?_
    refine l_x rfl (x_mv rfl) ?_
    refine l_x rfl (x_add rfl rfl (by omega)) ?_
    refine l_x rfl (x_as rfl) ?_
    refine l_nil ?_
    exact IH (k + 1, vo) _ _ (by dsimp only; omega) ⟨rfl, rfl, rfl, rfl, trivial⟩ ⟨by omega, (by rw [hst, if_pos (Decidable.not_not.1 hc23)]; rw [List.append_nil]; exact S13.take 2)⟩
  obtain rfl : k = 40 := by omega
  refine r_exit rfl ?_
  refine r_seq ?_
  refine r_region ?_
  refine l_x rfl (x_mv rfl) ?_
  refine l_x rfl (x_as rfl) ?_
  refine l_nil ?_
  refine r_ret (rs := [.tmp 4]) [_] Tryz.func119 rfl ⟨rfl, trivial⟩ ?_
  exact ⟨by have hN := S1.new 1 rfl; rw [List.take_of_length_le (by rw [owners_len]; omega)] at hN; exact hN, S1.le⟩

set_option maxHeartbeats 2000000 in
/-- couchant/couchantref02.Accounts. -/
theorem c_rAccounts (rs : List Rw) (vl : Value) (known : Int) (day : Int) (w : World) (hD : DsR 26 3 w vl rs) :
    Cl Tryz.prog 62 #[vl, .int .i64 known, .int .i64 day] w fun v w' => New w w' (vec EAC v (accs (onD (dl rs) known day) day)) ∧ Le w w' := by
  refine fn_of_run (args := [_, _, _]) 12 Tryz.func62 rfl rfl rfl fun cs => ?_
  have S := Own.start (X := nob) w
  refine r_seq ?_
  refine r_region ?_
  refine l_x rfl (x_as rfl) ?_
  refine l_nil ?_
  refine r_seq ?_
  refine r_region ?_
  refine l_x rfl (x_mv rfl) ?_
  refine l_x rfl (x_mv rfl) ?_
  refine l_call [] [] [_, _] rfl rfl Tryz.call50 rfl (c_rCounting rs vl known _ (hD.le S.le)) ?_
  rintro v91 w1 ⟨rq91, hq91, hm91, hN91, hl91⟩
  have S2 := S.add hl91 hN91
  obtain ⟨rq, hrqe⟩ : ∃ q, q = rq91 := ⟨_, rfl⟩
  subst hrqe
  have hqq := hq91
  have hqm := hm91
  have hlq := ctg_len hqq
  obtain ⟨hqp, hqs⟩ := ctg_play hqq
  refine l_x rfl (x_mv rfl) ?_
  refine l_call [] [] [_, _] rfl rfl Tryz.call119 rfl (c_raccounts rq _ day hqp hqs _ (hD.mem (S2).le (vec_rd ((S2).at 0 rfl)) hqm (by omega))) ?_
  rintro v113 w3 ⟨hN113, hl113⟩
  have S4 := S2.add hl113 hN113
  refine l_x rfl (x_as rfl) ?_
  refine l_nil ?_
  refine r_ret (rs := [.tmp 6]) [_] Tryz.func62 rfl ⟨rfl, trivial⟩ ?_
  exact ⟨by have hN := S4.new 1 rfl; rw [ctg_on hqq] at hN; exact hN, S4.le⟩

set_option maxHeartbeats 2000000 in
/-- couchant/couchantref02.AccountOf. -/
theorem c_rAccountOf (rs : List Rw) (vl : Value) (known : Int) (day o : Int) (w : World) (hD : DsR 26 3 w vl rs) :
    Cl Tryz.prog 63 #[vl, .int .i64 known, .int .i64 day, .int .i64 o] w fun v w' => v = .agg (encAc (accOf (dl rs) known day o)).toArray ∧ Le w w' := by
  refine fn_of_run (args := [_, _, _, _]) 26 Tryz.func63 rfl rfl rfl fun cs => ?_
  have S := Own.start (X := nob) w
  refine r_seq ?_
  refine r_region ?_
  refine l_alloc S rfl Tryz.zeroValue66 rfl ?_
  intro b4 w1 S2 hl3
  refine l_nil ?_
  refine r_seq ?_
  refine r_seq ?_
  refine r_region ?_
  refine l_x rfl (x_mv rfl) ?_
  refine l_call [] [] [_] rfl rfl Tryz.call86 rfl (c_rowner _ _) ?_
  rintro _ w5 ⟨rfl, hl7⟩
  have S6 := S2.step hl7
  refine l_x rfl (x_not rfl) ?_
  refine l_x rfl (x_mv rfl) ?_
  refine l_split (d := 12) rfl (fun hg12 => ?_) (fun hg12 => ?_)
  · skip
    refine l_pass rfl ?_
    refine l_pass rfl ?_
    refine l_pass rfl ?_
    refine l_x rfl (x_pick_t rfl rfl) ?_
    refine l_nil ?_
    refine r_true rfl ?_
    refine r_seq ?_
    refine r_region ?_
    refine l_x rfl (x_buildS (out := [_, _, _, _, _]) (ss := [1, 1, 1, 1, 1]) Tryz.zeroValue66 rfl Tryz.runUnderlying66 ⟨Tryz.sizeOf3, Tryz.sizeOf3, Tryz.sizeOf3, Tryz.sizeOf3, Tryz.sizeOf3, trivial⟩ fill_nil) ?_
    refine l_stores (vs := [_, _, _, _, _]) S6 0 rfl rfl rfl rfl (ones_cons rfl (ones_cons rfl (ones_cons rfl (ones_cons rfl (ones_cons rfl ones_nil))))) Tryz.sizeOf66 (by first | exact Nat.le_refl _ | simp) (splice_all rfl) ?_
    intro w8 S9 hk10
    refine l_nil ?_
    refine r_ret (rs := [.cell 8 66]) [_] Tryz.func63 rfl ⟨⟨_, rfl, (ld_blks (S9.blk 0 rfl) Tryz.isAgg66 Tryz.sizeOf66 rfl rfl)⟩, trivial⟩ ?_
    exact ⟨by rw [accOf, if_neg (by simp_all)]; rfl, S9.le⟩
  refine l_x rfl (x_mv rfl) ?_
  refine l_call [] [] [_] rfl rfl Tryz.call88 rfl (c_rright rs _ _ (hD.le S6.le)) ?_
  rintro _ w11 ⟨rfl, hl13⟩
  have S12 := S6.step hl13
  refine l_x rfl (x_not rfl) ?_
  refine l_x rfl (x_pick_f rfl rfl) ?_
  refine l_nil ?_
  refine r_if rfl (fun hc16 => ?_) (fun hc16 => ?_)
  · skip
    refine r_seq ?_
    refine r_region ?_
    refine l_x rfl (x_buildS (out := [_, _, _, _, _]) (ss := [1, 1, 1, 1, 1]) Tryz.zeroValue66 rfl Tryz.runUnderlying66 ⟨Tryz.sizeOf3, Tryz.sizeOf3, Tryz.sizeOf3, Tryz.sizeOf3, Tryz.sizeOf3, trivial⟩ fill_nil) ?_
    refine l_stores (vs := [_, _, _, _, _]) S12 0 rfl rfl rfl rfl (ones_cons rfl (ones_cons rfl (ones_cons rfl (ones_cons rfl (ones_cons rfl ones_nil))))) Tryz.sizeOf66 (by first | exact Nat.le_refl _ | simp) (splice_all rfl) ?_
    intro w14 S15 hk16
    refine l_nil ?_
    refine r_ret (rs := [.cell 8 66]) [_] Tryz.func63 rfl ⟨⟨_, rfl, (ld_blks (S15.blk 0 rfl) Tryz.isAgg66 Tryz.sizeOf66 rfl rfl)⟩, trivial⟩ ?_
    exact ⟨by rw [accOf, if_neg (by simp_all)]; rfl, S15.le⟩
  refine r_skip ?_
  refine r_seq ?_
  refine r_region ?_
  refine l_x rfl (x_mv rfl) ?_
  refine l_x rfl (x_mv rfl) ?_
  refine l_call [] [] [_, _] rfl rfl Tryz.call50 rfl (c_rCounting rs vl known _ (hD.le S12.le)) ?_
  rintro v2017 w17 ⟨rq2017, hq2017, hm2017, hN2017, hl2017⟩
  have S18 := S12.add hl2017 hN2017
  obtain ⟨rq, hrqe⟩ : ∃ q, q = rq2017 := ⟨_, rfl⟩
  subst hrqe
  have hqq := hq2017
  have hqm := hm2017
  have hlq := ctg_len hqq
  obtain ⟨hqp, hqs⟩ := ctg_play hqq
  refine l_x rfl (x_mv rfl) ?_
  refine l_call [] [] [_, _] rfl rfl Tryz.call87 rfl (c_rplay rq _ day hqp hqs _ (hD.mem (S18).le (vec_rd ((S18).at 1 rfl)) hqm (by omega))) ?_
  rintro _ w19 ⟨bs, ns, ms, hms, rfl, hb21⟩
  have S20 := S18.join hb21
  refine l_x rfl (x_mv rfl) ?_
  refine l_x rfl (x_mv rfl) ?_
  refine l_call [] [] [_, _, _] rfl rfl Tryz.call89 rfl (c_raccount bs ns ms (doneD (dl rq) day) hms o day (by first | omega | exact own_iff.1 (by simp_all)) (play_okay hqp hqs day).b (play_okay hqp hqs day).n.ld _ (S20.ro 2 rfl)) ?_
  rintro _ w22 ⟨rfl, hl24⟩
  have S23 := S20.step hl24
  refine l_stores (vs := [_, _, _, _, _]) S23 0 rfl rfl rfl rfl (ones_cons rfl (ones_cons rfl (ones_cons rfl (ones_cons rfl (ones_cons rfl ones_nil))))) Tryz.sizeOf66 (by first | exact Nat.le_refl _ | simp) (splice_all rfl) ?_
  intro w25 S26 hk27
  refine l_nil ?_
  refine r_ret (rs := [.cell 8 66]) [_] Tryz.func63 rfl ⟨⟨_, rfl, (ld_blks (S26.blk 0 rfl) Tryz.isAgg66 Tryz.sizeOf66 rfl rfl)⟩, trivial⟩ ?_
  exact ⟨by rw [accOf, if_pos (by simp_all), ← ctg_on hqq]; rfl, S26.le⟩

/-- couchant/couchantref02.Uses. -/
theorem c_rUses (rs : List Rw) (vl : Value) (known : Int) (day o : Int) (w : World) (hD : DsR 26 3 w vl rs) :
    Cl Tryz.prog 64 #[vl, .int .i64 known, .int .i64 day, .int .i64 o] w fun v w' => v = .int .i64 (usesD (dl rs) known day o) ∧ Le w w' := by
  have hbd := accOf_bd (dl rs) known day o
  refine fn_of_run (args := [_, _, _, _]) 23 Tryz.func64 rfl rfl rfl fun cs => ?_
  have S := Own.start (X := nob) w
  refine r_seq ?_
  refine r_region ?_
  refine l_x rfl (x_as rfl) ?_
  refine l_nil ?_
  refine r_seq ?_
  refine r_region ?_
  refine l_x rfl (x_mv rfl) ?_
  refine l_x rfl (x_mv rfl) ?_
  refine l_x rfl (x_mv rfl) ?_
  refine l_x rfl (x_mv rfl) ?_
  refine l_call [] [] [_, _, _, _] rfl rfl Tryz.call63 rfl (c_rAccountOf rs vl known day o _ (hD.le S.le)) ?_
  rintro _ w1 ⟨rfl, hl3⟩
  have S2 := S.step hl3
  refine l_alloc S2 rfl Tryz.zeroValue66 rfl ?_
  intro b7 w4 S5 hl6
  refine l_stores (vs := [_, _, _, _, _]) S5 0 rfl rfl rfl rfl (ones_cons rfl (ones_cons rfl (ones_cons rfl (ones_cons rfl (ones_cons rfl ones_nil))))) Tryz.sizeOf66 (by first | exact Nat.le_refl _ | simp) (splice_all rfl) ?_
  intro w8 S9 hk10
  refine l_nil ?_
  refine r_seq ?_
  refine r_region ?_
  refine l_x rfl (x_fieldAddr rfl Tryz.runUnderlying66 rfl Tryz.sizeOf3 (by decide)) ?_
  refine l_x rfl (x_load rfl (ld_blk (S9.blk 0 rfl) Tryz.isAgg3 rfl)) ?_
  refine l_x rfl (x_fieldAddr rfl Tryz.runUnderlying66 rfl Tryz.sizeOf3 (by decide)) ?_
  refine l_x rfl (x_load rfl (ld_blk (S9.blk 0 rfl) Tryz.isAgg3 rfl)) ?_
  refine l_x rfl (x_sub rfl rfl (by omega)) ?_
  refine l_x rfl (x_fieldAddr rfl Tryz.runUnderlying66 rfl Tryz.sizeOf3 (by decide)) ?_
  refine l_x rfl (x_load rfl (ld_blk (S9.blk 0 rfl) Tryz.isAgg3 rfl)) ?_
  refine l_x rfl (x_add rfl rfl (by omega)) ?_
  refine l_x rfl (x_as rfl) ?_
  refine l_nil ?_
  refine r_ret (rs := [.tmp 8]) [_] Tryz.func64 rfl ⟨rfl, trivial⟩ ?_
  exact ⟨congrArg (Value.int .i64) (by unfold usesD; omega), S9.le⟩

/-- couchant/couchantref02.Free. -/
theorem c_rFree (rs : List Rw) (vl : Value) (known : Int) (day o : Int) (w : World) (hD : DsR 26 3 w vl rs) :
    Cl Tryz.prog 65 #[vl, .int .i64 known, .int .i64 day, .int .i64 o] w fun v w' => v = .int .i64 (freeD (dl rs) known day o) ∧ Le w w' := by
  have hbd := accOf_bd (dl rs) known day o
  refine fn_of_run (args := [_, _, _, _]) 23 Tryz.func65 rfl rfl rfl fun cs => ?_
  have S := Own.start (X := nob) w
  refine r_seq ?_
  refine r_region ?_
  refine l_x rfl (x_as rfl) ?_
  refine l_nil ?_
  refine r_seq ?_
  refine r_region ?_
  refine l_x rfl (x_mv rfl) ?_
  refine l_x rfl (x_mv rfl) ?_
  refine l_x rfl (x_mv rfl) ?_
  refine l_x rfl (x_mv rfl) ?_
  refine l_call [] [] [_, _, _, _] rfl rfl Tryz.call63 rfl (c_rAccountOf rs vl known day o _ (hD.le S.le)) ?_
  rintro _ w1 ⟨rfl, hl3⟩
  have S2 := S.step hl3
  refine l_alloc S2 rfl Tryz.zeroValue66 rfl ?_
  intro b7 w4 S5 hl6
  refine l_stores (vs := [_, _, _, _, _]) S5 0 rfl rfl rfl rfl (ones_cons rfl (ones_cons rfl (ones_cons rfl (ones_cons rfl (ones_cons rfl ones_nil))))) Tryz.sizeOf66 (by first | exact Nat.le_refl _ | simp) (splice_all rfl) ?_
  intro w8 S9 hk10
  refine l_nil ?_
  refine r_seq ?_
  refine r_region ?_
  refine l_x rfl (x_fieldAddr rfl Tryz.runUnderlying66 rfl Tryz.sizeOf3 (by decide)) ?_
  refine l_x rfl (x_load rfl (ld_blk (S9.blk 0 rfl) Tryz.isAgg3 rfl)) ?_
  refine l_x rfl (x_fieldAddr rfl Tryz.runUnderlying66 rfl Tryz.sizeOf3 (by decide)) ?_
  refine l_x rfl (x_load rfl (ld_blk (S9.blk 0 rfl) Tryz.isAgg3 rfl)) ?_
  refine l_x rfl (x_sub rfl rfl (by omega)) ?_
  refine l_x rfl (x_fieldAddr rfl Tryz.runUnderlying66 rfl Tryz.sizeOf3 (by decide)) ?_
  refine l_x rfl (x_load rfl (ld_blk (S9.blk 0 rfl) Tryz.isAgg3 rfl)) ?_
  refine l_x rfl (x_sub rfl rfl (by omega)) ?_
  refine l_x rfl (x_as rfl) ?_
  refine l_nil ?_
  refine r_ret (rs := [.tmp 8]) [_] Tryz.func65 rfl ⟨rfl, trivial⟩ ?_
  exact ⟨congrArg (Value.int .i64) (by unfold freeD; omega), S9.le⟩

theorem accs_sum_bd {s : St} (hB : StB s) {day : Int} (k : Nat) : 0 ≤ sumI (((accs s day).take k).map (·.holds)) ∧ sumI (((accs s day).take k).map (·.holds)) ≤ 40000000000 := by
  have h1 := accs_len s day
  have := sumI_bd (l := ((accs s day).take k).map (·.holds)) (B := 1000000000) fun x hx => by
    obtain ⟨a, ha, rfl⟩ := List.mem_map.1 hx
    obtain ⟨o, _, rfl⟩ := List.mem_map.1 (List.mem_filter.1 (List.mem_of_mem_take ha)).1
    exact hB.hb o
  rw [List.length_map, List.length_take] at this
  omega

set_option maxHeartbeats 2000000 in
/-- couchant/couchantref02.Total. -/
theorem c_rTotal (rs : List Rw) (vl : Value) (known : Int) (day : Int) (w : World) (hD : DsR 26 3 w vl rs) :
    Cl Tryz.prog 66 #[vl, .int .i64 known, .int .i64 day] w fun v w' => v = .int .i64 (totalD (dl rs) known day) ∧ Le w w' := by
  have hB := on_stb (dl rs) known day
  have hal := accs_len (onD (dl rs) known day) day
  have hsb := fun k => accs_sum_bd hB (day := day) k
  refine fn_of_run (args := [_, _, _]) 28 Tryz.func66 rfl rfl rfl fun cs => ?_
  have S := Own.start (X := nob) w
  refine r_seq ?_
  refine r_region ?_
  refine l_x rfl (x_as rfl) ?_
  refine l_nil ?_
  refine r_seq ?_
  refine r_region ?_
  refine l_x rfl (x_mv rfl) ?_
  refine l_x rfl (x_mv rfl) ?_
  refine l_x rfl (x_mv rfl) ?_
  refine l_call [] [] [_, _, _] rfl rfl Tryz.call62 rfl (c_rAccounts rs vl known day _ (hD.le S.le)) ?_
  rintro v131 w1 ⟨hN131, hl131⟩
  have S2 := S.add hl131 hN131
  refine l_x rfl (x_as rfl) ?_
  refine l_nil ?_
  refine r_seq ?_
  refine r_region ?_
  refine l_x rfl (x_as rfl) ?_
  refine l_nil ?_
  refine r_seq ?_
  refine r_seq ?_
  refine r_region ?_
  refine l_x rfl (x_as rfl) ?_
  refine l_nil ?_
  refine r_block ?_
  refine r_loop (G := Nat) (fun i => (accs (onD (dl rs) known day) day).length - i) (fun i => [(7, v131), (8, .int .i64 (sumI (((accs (onD (dl rs) known day) day).take i).map (·.holds)))), (9, .int .i64 i)]) (fun i w' => (i ≤ (accs (onD (dl rs) known day) day).length) ∧ Own nob w w' [vec EAC v131 (accs (onD (dl rs) known day) day)]) 0 ⟨rfl, (congrArg (Value.int .i64) (by simp [sumI])), rfl, trivial⟩ ⟨Nat.zero_le _, (S2.take 1)⟩ ?_
  rintro i ρ w1 ⟨hi, S1⟩ IH
  refine r_seq ?_
  refine r_seq ?_
  refine r_region ?_
  refine l_x rfl (x_mv rfl) ?_
  refine l_x rfl (x_mv rfl) ?_
  refine l_x rfl (x_len (vec_rd (S1.at 0 rfl)) rfl Tryz.runUnderlying74) ?_
  refine l_x rfl (x_lss rfl rfl) ?_
  refine l_nil ?_
  refine r_ifd rfl (fun hc17 => ?_) (fun hc17 => ?_)
  · skip
    obtain ⟨x, hx⟩ : ∃ x, (accs (onD (dl rs) known day) day)[i]? = some x := ⟨_, List.getElem?_eq_getElem (by omega)⟩
    have h4 := hsb i
    have h5 := hsb (i + 1)
    have h6 := map_sum_step (f := fun a : Acc => a.holds) hx
    rw [h6] at h5
    refine r_skip ?_
    refine r_seq ?_
    refine r_block ?_
    refine r_region ?_
    refine l_x rfl (x_mv rfl) ?_
    refine l_x rfl (x_mv rfl) ?_
    refine l_x rfl (x_mv rfl) ?_
    refine l_index EAC rfl (vec_rd (S1.at 0 rfl)) rfl rfl Tryz.runUnderlying74 Tryz.sizeOf66 (by omega) hx ?_
    intro b3 o4 hat5 row6
    refine l_x rfl (x_fieldAddr rfl Tryz.runUnderlying66 rfl Tryz.sizeOf3 (by decide)) ?_
    refine l_x rfl (x_load rfl (ld_cell Tryz.isAgg3 (row6 1 _ rfl))) ?_
    refine l_x rfl (x_add rfl rfl (by omega)) ?_
    refine l_x rfl (x_as rfl) ?_
    refine l_nil ?_
    refine r_inBlock ?_
    refine r_region ?_
    refine l_x rfl (x_mv rfl) ?_
    refine l_x rfl (x_add rfl rfl (by omega)) ?_
    refine l_x rfl (x_as rfl) ?_
    refine l_nil ?_
    exact IH (i + 1) _ _ (by omega) ⟨rfl, (congrArg (Value.int .i64) h6.symm), rfl, trivial⟩ ⟨by omega, (S1.take 1)⟩
  obtain rfl : i = (accs (onD (dl rs) known day) day).length := by omega
  refine r_exit rfl ?_
  refine r_seq ?_
  refine r_region ?_
  refine l_x rfl (x_mv rfl) ?_
  refine l_x rfl (x_as rfl) ?_
  refine l_nil ?_
  refine r_ret (rs := [.tmp 6]) [_] Tryz.func66 rfl ⟨rfl, trivial⟩ ?_
  exact ⟨congrArg (Value.int .i64) (by rw [List.take_length, accs_sum]; rfl), S1.le⟩

end Go.Proofs
