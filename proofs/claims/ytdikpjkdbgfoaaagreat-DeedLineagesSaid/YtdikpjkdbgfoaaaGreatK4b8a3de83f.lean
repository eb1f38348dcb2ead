/- Texts joined for claims: G12, G13. -/
import Derived.Test.YtdikpjkdbgfoaaaGreatK86df827cc6
import Derived.Test.YtdikpjkdbgfoaaaGreatKf9988f86e5
import Derived.Test.YtdikpjkdbgfoaaaGreatK7b2636f81b
import Derived.Test.YtdikpjkdbgfoaaaGreatK5095efb366
set_option linter.unusedVariables false
set_option linter.unusedSimpArgs false
set_option linter.unusedSectionVars false
namespace Go.Proofs
open Go Go.Vk Go.Vk.Flow

open Go.Vk.Deed
structure PlayOk (l : List D) (day : Int) : Prop where
 i : StI (doneD l day) (l.filter fun x => decide (x.day ≤ day))
 b : StB (doneD l day)
 n : NN (doneD l day) day
theorem play_okay {l : List D} (hP : PlayL l) (hs : l.Pairwise fun a b => a.day ≤ b.day) (day : Int) : PlayOk l day := by
 have hPf : PlayL (l.filter fun x => decide (x.day ≤ day)) := hP.filter _
 have hI := play_inv _ rfl hPf
 exact ⟨hI, hI.stb hPf.e hPf.len, play_nn _ rfl hPf (hs.filter _) day fun x hx => by simpa using (List.mem_filter.1 hx).2⟩
theorem playl_nil : PlayL [] := ⟨nofun, nofun, List.nodup_nil, by simp [enters, sumI], Nat.zero_le _⟩
theorem ctg_play {l c : List D} {known : Int} (h : c = if rightD l = true then counting l known else []) : PlayL c ∧ c.Pairwise fun a b => a.day ≤ b.day := by
 subst h
 split
 ·next hR => exact ⟨right_play hR, count_sorted hR⟩
 exact ⟨playl_nil, .nil⟩
theorem ctg_on {l c : List D} {known day : Int} (h : c = if rightD l = true then counting l known else []) : doneD c day = onD l known day := by
 subst h
 unfold onD
 split <;> rfl
theorem ctg_len {l : List D} {rq : List Rw} {known : Int} (h : dl rq = if rightD l = true then counting l known else []) : rq.length ≤ 400 := by
 have := (ctg_play h).1.len
 rwa [dl_len] at this
theorem acc_step9 {s : St} {day : Int} {k : Nat} (h : k < 40) : ((owners.take (k + 1)).map fun o => acc s o day).filter (fun a : Acc => decide (a ≠ ⟨a.owner, 0, 0, 0, 0⟩)) =
  ((owners.take k).map fun o => acc s o day).filter (fun a : Acc => decide (a ≠ ⟨a.owner, 0, 0, 0, 0⟩)) ++ if acc s ((k : Int) + 1) day = ⟨(k : Int) + 1, 0, 0, 0, 0⟩ then [] else [acc s ((k : Int) + 1) day] := by
 rw [List.take_add_one, owners_get h, List.map_append, List.filter_append]
 congr 1
 show [acc s ((k : Int) + 1) day].filter _ = _
 by_cases e : acc s ((k : Int) + 1) day = ⟨(k : Int) + 1, 0, 0, 0, 0⟩
 ·rw [if_pos e, List.filter_cons_of_neg (by simp [acc] at e ⊢; exact e)]; rfl
 rw [if_neg e, List.filter_cons_of_pos (p := fun a : Acc => decide (a ≠ ⟨a.owner, 0, 0, 0, 0⟩)) (decide_eq_true e)]; rfl
theorem acc_len9 {s : St} {day : Int} (k : Nat) : (((owners.take k).map fun o => acc s o day).filter (fun a : Acc => decide (a ≠ ⟨a.owner, 0, 0, 0, 0⟩))).length ≤ 40 :=
 Nat.le_trans (List.length_filter_le _ _) (by rw [List.length_map, List.length_take, owners_len]; omega)
set_option maxHeartbeats 4000000 in
theorem c_raccount (b : Nat) (n : SNm) (m : Nat) (s : St) (hm : m ≤ 400) (o day : Int) (ho : 1 ≤ o ∧ o ≤ 40) (hB : StB s) (hld : ∀ x ∈ s.leases, x.day ≤ day) (w : World) (h0 : RO (stS TS b n m s) w) :
  Cl Tryz.prog 89 #[.pointer (some ⟨b, 0, none⟩), .int .i64 o, .int .i64 day] w fun v w' => v = .agg (encAc (acc s o day)).toArray ∧ Le w w' := by
 obtain ⟨r, hR⟩ := StRO.of h0
 have hO := hR.ok
 have hll := r_ll hO hB
 have hpl := hO.pl
 have hel := hO.e
 have hib := fun k => rinn_bd (o := o) (day := day) hO hB k
 have hh := hO.h o.toNat (by omega)
 rw [Int.toNat_of_nonneg (by omega)] at hh
 refine fn_of_run (args := [_, _, _]) 70 Tryz.func89 rfl rfl rfl fun cs => ?_
 have S := Own.start (X := nob) w
 refine r_seq ?_
 refine r_region ?_
 refine l_alloc S rfl Tryz.zeroValue66 rfl ?_
 intro b4 w1 S2 hl3
 refine l_nil ?_
 refine r_seq ?_
 refine r_region ?_
 refine l_m rfl ?_
 refine l_m rfl ?_
 refine l_m rfl ?_
 refine l_call [] [] [_, _, _] rfl rfl Tryz.call137 rfl (c_rbound b n m s hm o day hB hld _ (h0.le S2.le)) ?_
 rintro _ w5 ⟨rfl, hl7⟩
 have S6 := S2.step hl7
 refine l_m rfl ?_
 refine l_x rfl (x_extract rfl rfl) ?_
 refine l_x rfl (x_extract rfl rfl) ?_
 refine l_a rfl ?_
 refine l_a rfl ?_
 refine l_nil ?_
 refine r_seq ?_
 refine r_region ?_
 refine l_a rfl ?_
 refine l_nil ?_
 refine r_seq ?_
 refine r_seq ?_
 refine r_region ?_
 refine l_a rfl ?_
 refine l_nil ?_
 refine r_block ?_
 refine r_loop (G := Nat) (fun i => r.ls.length - i) (fun i => [(0, .pointer (some ⟨b, 0, none⟩)), (1, .int .i64 o), (2, .int .i64 day), (6, .pointer (some ⟨b4, 0, none⟩)), (7, .int .i64 (pledged s o)), (8, .int .i64 (outS s o day)), (9, .int .i64 (rinn r o day i)), (10, .int .i64 i)]) (fun i w' => (i ≤ r.ls.length) ∧ Own nob w w' [blk b4 [.int .i64 0, .int .i64 0, .int .i64 0, .int .i64 0, .int .i64 0] 66]) 0 ⟨rfl, rfl, rfl, rfl, rfl, rfl, (congrArg (Value.int .i64) (by simp [rinn, sumI])), rfl, trivial⟩ ⟨Nat.zero_le _, (S6.take 1)⟩ ?_
 rintro i ρ w1 ⟨hi, S1⟩ IH
 refine r_seq ?_
 refine r_seq ?_
 refine r_region ?_
 refine l_m rfl ?_
 refine l_m rfl ?_
 refine l_x rfl (x_nilCheck rfl) ?_
 refine l_x rfl (x_fieldAddr rfl Tryz.runUnderlying108 rfl Tryz.sizeOf78 (by decide)) ?_
 refine l_x rfl (x_load rfl (ld_blk (hR.blk.keep S1.le id) Tryz.isAgg78 stL_get)) ?_
 refine l_x rfl (x_len (hR.lm.le S1.le) rfl Tryz.runUnderlying78) ?_
 refine l_x rfl (x_lss rfl rfl) ?_
 refine l_nil ?_
 refine r_ifd rfl (fun hc24 => ?_) (fun hc24 => ?_)
 ·skip
  obtain ⟨x, hx⟩ : ∃ x, r.ls[i]? = some x := ⟨_, List.getElem?_eq_getElem (by omega)⟩
  have hxb := r_lp hO hB (List.mem_of_getElem? hx)
  have hp1 := hib i
  have hp2 := hib (i + 1)
  rw [rinn_step hx] at hp2
  refine r_skip ?_
  refine r_seq ?_
  refine r_block ?_
  refine r_seq ?_
  refine r_region ?_
  refine l_m rfl ?_
  refine l_x rfl (x_nilCheck rfl) ?_
  refine l_x rfl (x_fieldAddr rfl Tryz.runUnderlying108 rfl Tryz.sizeOf78 (by decide)) ?_
  refine l_x rfl (x_load rfl (ld_blk (hR.blk.keep S1.le id) Tryz.isAgg78 stL_get)) ?_
  refine l_m rfl ?_
  refine l_index ELZ rfl (hR.lm.le S1.le) rfl rfl Tryz.runUnderlying78 Tryz.sizeOf84 (by omega) hx ?_
  intro b8 o9 hat10 row11
  refine l_x rfl (x_fieldAddr rfl Tryz.runUnderlying84 rfl Tryz.sizeOf3 (by decide)) ?_
  refine l_x rfl (x_load rfl (ld_cell Tryz.isAgg3 (row11 2 _ rfl))) ?_
  refine l_m rfl ?_
  refine l_x rfl (x_eql rfl rfl) ?_
  refine l_m rfl ?_
  refine l_splitd (d := 37) rfl (fun hg37 => ?_) (fun hg37 => ?_)
  ·skip
   refine l_m rfl ?_
   refine l_x rfl (x_nilCheck rfl) ?_
   refine l_x rfl (x_fieldAddr rfl Tryz.runUnderlying108 rfl Tryz.sizeOf78 (by decide)) ?_
   refine l_x rfl (x_load rfl (ld_blk (hR.blk.keep S1.le id) Tryz.isAgg78 stL_get)) ?_
   refine l_m rfl ?_
   refine l_index ELZ rfl (hR.lm.le S1.le) rfl rfl Tryz.runUnderlying78 Tryz.sizeOf84 (by omega) hx ?_
   intro b12 o13 hat14 row15
   refine l_x rfl (x_fieldAddr rfl Tryz.runUnderlying84 rfl Tryz.sizeOf3 (by decide)) ?_
   refine l_x rfl (x_load rfl (ld_cell Tryz.isAgg3 (row15 4 _ rfl))) ?_
   refine l_m rfl ?_
   refine l_x rfl (x_geq rfl rfl) ?_
   refine l_x rfl (x_pick_t rfl rfl) ?_
   refine l_nil ?_
   refine r_ifd rfl (fun hc48 => ?_) (fun hc48 => ?_)
   ·skip
    refine r_region ?_
    refine l_m rfl ?_
    refine l_m rfl ?_
    refine l_x rfl (x_nilCheck rfl) ?_
    refine l_x rfl (x_fieldAddr rfl Tryz.runUnderlying108 rfl Tryz.sizeOf78 (by decide)) ?_
    refine l_x rfl (x_load rfl (ld_blk (hR.blk.keep S1.le id) Tryz.isAgg78 stL_get)) ?_
    refine l_m rfl ?_
    refine l_index ELZ rfl (hR.lm.le S1.le) rfl rfl Tryz.runUnderlying78 Tryz.sizeOf84 (by omega) hx ?_
    intro b16 o17 hat18 row19
    refine l_x rfl (x_fieldAddr rfl Tryz.runUnderlying84 rfl Tryz.sizeOf3 (by decide)) ?_
    refine l_x rfl (x_load rfl (ld_cell Tryz.isAgg3 (row19 3 _ rfl))) ?_
    refine l_x rfl (x_add rfl rfl (by rw [if_pos ⟨hg37, by omega⟩] at hp2; omega)) ?_
    refine l_a rfl ?_
    refine l_nil ?_
    refine r_inBlock ?_
    refine r_region ?_
    refine l_m rfl ?_
    refine l_x rfl (x_add rfl rfl (by omega)) ?_
    refine l_a rfl ?_
    refine l_nil ?_
    exact IH (i + 1) _ _ (by omega) ⟨rfl, rfl, rfl, rfl, rfl, rfl, (congrArg (Value.int .i64) (by rw [rinn_step hx, if_pos ⟨hg37, by omega⟩])), rfl, trivial⟩ ⟨by omega, (S1.take 1)⟩
   refine r_skip ?_
   refine r_inBlock ?_
   refine r_region ?_
   refine l_m rfl ?_
   refine l_x rfl (x_add rfl rfl (by omega)) ?_
   refine l_a rfl ?_
   refine l_nil ?_
   exact IH (i + 1) _ _ (by omega) ⟨rfl, rfl, rfl, rfl, rfl, rfl, (congrArg (Value.int .i64) (by rw [rinn_step hx, if_neg (by omega), Int.add_zero])), rfl, trivial⟩ ⟨by omega, (S1.take 1)⟩
  refine l_pass rfl ?_
  refine l_pass rfl ?_
  refine l_pass rfl ?_
  refine l_pass rfl ?_
  refine l_pass rfl ?_
  refine l_pass rfl ?_
  refine l_pass rfl ?_
  refine l_pass rfl ?_
  refine l_pass rfl ?_
  refine l_pass rfl ?_
  refine l_x rfl (x_pick_f rfl rfl) ?_
  refine l_nil ?_
  refine r_false rfl ?_
  refine r_skip ?_
  refine r_inBlock ?_
  refine r_region ?_
  refine l_m rfl ?_
  refine l_x rfl (x_add rfl rfl (by omega)) ?_
  refine l_a rfl ?_
  refine l_nil ?_
  exact IH (i + 1) _ _ (by omega) ⟨rfl, rfl, rfl, rfl, rfl, rfl, (congrArg (Value.int .i64) (by rw [rinn_step hx, if_neg (fun h => hg37 h.1), Int.add_zero])), rfl, trivial⟩ ⟨by omega, (S1.take 1)⟩
 obtain rfl : i = r.ls.length := by omega
 have hia := rinn_all (o := o) hO hld (Nat.le_refl _)
 have hac : acc s o day = ⟨o, r.h o.toNat, pledged s o, outS s o day, rinn r o day r.ls.length⟩ := by unfold acc; rw [hh, hia]
 refine r_exit rfl ?_
 refine r_seq ?_
 refine r_region ?_
 refine l_m rfl ?_
 refine l_m rfl ?_
 refine l_m rfl ?_
 refine l_x rfl (x_nilCheck rfl) ?_
 refine l_x rfl (x_fieldAddr rfl Tryz.runUnderlying108 rfl Tryz.sizeOf104 (by decide)) ?_
 refine l_x rfl (x_indexAddr_array rfl rfl Tryz.runUnderlying104 Tryz.sizeOf3 (by omega)) ?_
 refine l_x rfl (x_load rfl (ld_blk (hR.blk.keep S1.le id) Tryz.isAgg3 (stH_get (by omega)))) ?_
 refine l_m rfl ?_
 refine l_m rfl ?_
 refine l_m rfl ?_
 refine l_x rfl (x_buildS (out := [_, _, _, _, _]) (ss := [1, 1, 1, 1, 1]) Tryz.zeroValue66 rfl Tryz.runUnderlying66 ⟨Tryz.sizeOf3, Tryz.sizeOf3, Tryz.sizeOf3, Tryz.sizeOf3, Tryz.sizeOf3, trivial⟩ (fill_cons rfl rfl rfl (Nat.le_of_ble_eq_true rfl) (fill_cons rfl rfl rfl (Nat.le_of_ble_eq_true rfl) (fill_cons rfl rfl rfl (Nat.le_of_ble_eq_true rfl) (fill_cons rfl rfl rfl (Nat.le_of_ble_eq_true rfl) (fill_cons rfl rfl rfl (Nat.le_of_ble_eq_true rfl) fill_nil)))))) ?_
 refine l_stores (vs := [_, _, _, _, _]) S1 0 rfl rfl rfl rfl (ones_cons rfl (ones_cons rfl (ones_cons rfl (ones_cons rfl (ones_cons rfl ones_nil))))) Tryz.sizeOf66 (by first | exact Nat.le_refl _ | simp) (splice_all rfl) ?_
 intro w20 S21 hk22
 refine l_nil ?_
 refine r_ret (rs := [.cell 6 66]) [_] Tryz.func89 rfl ⟨⟨_, rfl, (ld_blks (S21.blk 0 rfl) Tryz.isAgg66 Tryz.sizeOf66 rfl rfl)⟩, trivial⟩ ?_
 exact ⟨by rw [hac]; rfl, S21.le⟩

set_option maxHeartbeats 4000000 in
theorem c_raccounts (rs : List Rw) (vl : Value) (day : Int) (hP : PlayL (dl rs)) (hs : (dl rs).Pairwise fun a b => a.day ≤ b.day) (w : World) (hD : DsR 26 3 w vl rs) :
  Cl Tryz.prog 119 #[vl, .int .i64 day] w fun v w' => New w w' (vec EAC v (accs (doneD (dl rs) day) day)) ∧ Le w w' := by
 have hk := play_okay hP hs day
 refine fn_of_run (args := [_, _]) 29 Tryz.func119 rfl rfl rfl fun cs => ?_
 have S := Own.start (X := nob) w
 refine r_seq ?_
 refine r_region ?_
 refine l_a rfl ?_
 refine l_nil ?_
 refine r_seq ?_
 refine r_region ?_
 refine l_m rfl ?_
 refine l_m rfl ?_
 refine l_call [] [] [_, _] rfl rfl Tryz.call87 rfl (c_rplay rs vl day hP hs _ (hD.le S.le)) ?_
 rintro _ w1 ⟨bs, ns, ms, hms, rfl, hb3⟩
 have S2 := S.join hb3
 refine l_a rfl ?_
 refine l_nil ?_
 refine r_seq ?_
 refine r_region ?_
 refine l_a rfl ?_
 have S4 := S2.nilvec (E := EAC)
 refine l_nil ?_
 refine r_seq ?_
 refine r_seq ?_
 refine r_region ?_
 refine l_a rfl ?_
 refine l_nil ?_
 refine r_block ?_
 refine r_loop (G := Nat × Value) (fun ⟨k, vo⟩ => 40 - k) (fun ⟨k, vo⟩ => [(1, .int .i64 day), (5, .pointer (some ⟨bs, 0, none⟩)), (6, vo), (7, .int .i64 ((k : Int) + 1))]) (fun ⟨k, vo⟩ w' => (k ≤ 40) ∧ Own nob w w' [stS TS bs ns ms (doneD (dl rs) day), vec EAC vo (((owners.take k).map fun o => acc (doneD (dl rs) day) o day).filter fun a : Acc => decide (a ≠ ⟨a.owner, 0, 0, 0, 0⟩))]) (0, .slice none 0 0) ⟨rfl, rfl, rfl, rfl, trivial⟩ ⟨Nat.zero_le _, (S4.take 2)⟩ ?_
 rintro ⟨k, vo⟩ ρ w1 ⟨hk4, S1⟩ IH
 refine r_seq ?_
 refine r_seq ?_
 refine r_region ?_
 refine l_m rfl ?_
 refine l_x rfl (x_leq rfl rfl) ?_
 refine l_nil ?_
 refine r_ifd rfl (fun hc13 => ?_) (fun hc13 => ?_)
 ·skip
  have hal := acc_len9 (s := doneD (dl rs) day) (day := day) k
  have hst := acc_step9 (s := doneD (dl rs) day) (day := day) (k := k) (by omega)
  refine r_skip ?_
  refine r_seq ?_
  refine r_block ?_
  refine r_seq ?_
  refine r_region ?_
  refine l_m rfl ?_
  refine l_m rfl ?_
  refine l_m rfl ?_
  refine l_call [] [] [_, _, _] rfl rfl Tryz.call89 rfl (c_raccount bs ns ms (doneD (dl rs) day) hms ((k : Int) + 1) day (by omega) hk.b hk.n.ld _ (S1.ro 0 rfl)) ?_
  rintro _ w5 ⟨rfl, hl7⟩
  have S6 := S1.step hl7
  refine l_alloc S6 rfl Tryz.zeroValue66 rfl ?_
  intro b11 w8 S9 hl10
  refine l_stores (vs := [_, _, _, _, _]) S9 2 rfl rfl rfl rfl (ones_cons rfl (ones_cons rfl (ones_cons rfl (ones_cons rfl (ones_cons rfl ones_nil))))) Tryz.sizeOf66 (by first | exact Nat.le_refl _ | simp) (splice_all rfl) ?_
  intro w12 S13 hk14
  refine l_nil ?_
  refine r_seq ?_
  refine r_region ?_
  refine l_x rfl (x_load rfl (ld_blks (S13.blk 2 rfl) Tryz.isAgg66 Tryz.sizeOf66 rfl rfl)) ?_
  refine l_m rfl ?_
  refine l_x rfl (x_buildS (out := [_, _, _, _, _]) (ss := [1, 1, 1, 1, 1]) Tryz.zeroValue66 rfl Tryz.runUnderlying66 ⟨Tryz.sizeOf3, Tryz.sizeOf3, Tryz.sizeOf3, Tryz.sizeOf3, Tryz.sizeOf3, trivial⟩ (fill_cons rfl rfl rfl (Nat.le_of_ble_eq_true rfl) fill_nil)) ?_
  refine l_x rfl (x_neAc (a := acc (doneD (dl rs) day) ((k : Int) + 1) day) (b := ⟨(k : Int) + 1, 0, 0, 0, 0⟩) rfl rfl) ?_
  refine l_nil ?_
  refine r_ifd rfl (fun hc23 => ?_) (fun hc23 => ?_)
  ·skip
   refine r_region ?_
   refine l_m rfl ?_
   refine l_x rfl (x_load rfl (ld_blks (S13.blk 2 rfl) Tryz.isAgg66 Tryz.sizeOf66 rfl rfl)) ?_
   refine l_buildSlice EAC [acc (doneD (dl rs) day) ((k : Int) + 1) day] S13 rfl Tryz.runUnderlying74 Tryz.sizeOf66 Tryz.zeroValue66 rfl ⟨rfl, rfl, trivial⟩ (Nat.le_of_ble_eq_true rfl) ?_
   intro v18 w15 S16 hl17
   refine l_append EAC S16 1 rfl rfl rfl rfl (vec_rd (S16.at 3 rfl)) Tryz.underlying74 info66 rfl rfl rfl (by unfold maxLen; simp only [List.length_singleton]; omega) (by show _ * 40 ≤ _; simp only [List.length_singleton]; omega) ?_
   intro v22 w19 S20 hk21 hv23
   refine l_a rfl ?_
   refine l_nil ?_
   refine r_inBlock ?_
   refine r_region ?_
   refine l_m rfl ?_
   refine l_x rfl (x_add rfl rfl (by omega)) ?_
   refine l_a rfl ?_
   refine l_nil ?_
   exact IH (k + 1, v22) _ _ (by dsimp only; omega) ⟨rfl, rfl, rfl, rfl, trivial⟩ ⟨by omega, (by rw [hst, if_neg hc23]; exact S20.take 2)⟩
  refine r_skip ?_
  refine r_inBlock ?_
  refine r_region ?_
  refine l_m rfl ?_
  refine l_x rfl (x_add rfl rfl (by omega)) ?_
  refine l_a rfl ?_
  refine l_nil ?_
  exact IH (k + 1, vo) _ _ (by dsimp only; omega) ⟨rfl, rfl, rfl, rfl, trivial⟩ ⟨by omega, (by rw [hst, if_pos (Decidable.not_not.1 hc23)]; rw [List.append_nil]; exact S13.take 2)⟩
 obtain rfl : k = 40 := by omega
 refine r_exit rfl ?_
 refine r_seq ?_
 refine r_region ?_
 refine l_m rfl ?_
 refine l_a rfl ?_
 refine l_nil ?_
 refine r_ret (rs := [.tmp 4]) [_] Tryz.func119 rfl ⟨rfl, trivial⟩ ?_
 exact ⟨by have hN := S1.new 1 rfl; rw [List.take_of_length_le (by rw [owners_len]; omega)] at hN; exact hN, S1.le⟩

end Go.Proofs

namespace Go.Proofs
open Go Go.Vk Go.Vk.Flow

open Go.Vk.Deed

set_option maxHeartbeats 4000000 in
theorem c_rasc (l : List Int) (vl : Value) (hml : l.length ≤ 1000000) (w : World) (hL : Rd EI w vl l) :
  Cl Tryz.prog 116 #[vl] w fun v w' => New w w' (vec EI v (Go.Vk.Deed.asc l)) ∧ Le w w' := by
 refine fn_of_run (args := [_]) 49 Tryz.func116 rfl rfl rfl fun cs => ?_
 have S := Own.start (X := nob) w
 refine r_seq ?_
 refine r_region ?_
 refine l_a rfl ?_
 refine l_nil ?_
 refine r_seq ?_
 refine r_region ?_
 refine l_a rfl ?_
 have S1 := S.nilvec (E := EI)
 refine l_nil ?_
 refine r_seq ?_
 refine r_seq ?_
 refine r_region ?_
 refine l_a rfl ?_
 refine l_nil ?_
 refine r_block ?_
 refine r_loop (G := Nat × List Int × Value) (fun ⟨i, out, vo⟩ => l.length - i) (fun ⟨i, out, vo⟩ => [(0, vl), (3, vo), (4, .int .i64 i)]) (fun ⟨i, out, vo⟩ w' => (i ≤ l.length) ∧ (out.Perm (l.take i)) ∧ (out.Pairwise (· ≤ ·)) ∧ Own nob w w' [vec EI vo out]) (0, [], .slice none 0 0) ⟨rfl, rfl, rfl, trivial⟩ ⟨Nat.zero_le _, .refl _, .nil, (S1.take 1)⟩ ?_
 rintro ⟨i, out, vo⟩ ρ w1 ⟨hi, hp, hs, S1⟩ IH
 refine r_seq ?_
 refine r_seq ?_
 refine r_region ?_
 refine l_m rfl ?_
 refine l_m rfl ?_
 refine l_x rfl (x_len (hL.le S1.le) rfl Tryz.runUnderlying24) ?_
 refine l_x rfl (x_lss rfl rfl) ?_
 refine l_nil ?_
 refine r_ifd rfl (fun hc10 => ?_) (fun hc10 => ?_)
 ·skip
  obtain ⟨a, ha⟩ : ∃ a, l[i]? = some a := ⟨_, List.getElem?_eq_getElem (by omega)⟩
  have hol : out.length ≤ i := by rw [hp.length_eq, List.length_take]; omega
  have hi9 : i ≤ 1000000 := by omega
  refine r_skip ?_
  refine r_seq ?_
  refine r_block ?_
  refine r_seq ?_
  refine r_region ?_
  refine l_m rfl ?_
  refine l_x rfl (x_len (vec_rd (S1.at 0 rfl)) rfl Tryz.runUnderlying24) ?_
  refine l_a rfl ?_
  refine l_nil ?_
  refine r_seq ?_
  refine r_block ?_
  refine r_loop (G := Nat) (fun k => k) (fun k => [(0, vl), (3, vo), (4, .int .i64 i), (5, .int .i64 k)]) (fun k w' => (k ≤ out.length) ∧ (∀ y ∈ out.drop k, a < y) ∧ Own nob w w' [vec EI vo out]) out.length ⟨rfl, rfl, rfl, rfl, trivial⟩ ⟨Nat.le_refl _, by simp, (S1.take 1)⟩ ?_
  rintro k ρ w1b ⟨hk, hdk, S1b⟩ IHb
  refine r_seq ?_
  refine r_seq ?_
  refine r_drawR 14 Tryz.mixed (by kernel_rfl) ?_
  refine w_x rfl (fun w1 h1 => x_mv rfl) ?_
  refine w_x rfl (fun w1 h1 => x_gtr rfl rfl) ?_
  refine w_x rfl (fun w1 h1 => x_mv rfl) ?_
  refine w_splitd (d := 17) rfl (fun hg17 => ?_) (fun hg17 => ?_)
  ·skip
   obtain ⟨z, hz⟩ : ∃ z, out[k - 1]? = some z := ⟨_, List.getElem?_eq_getElem (by omega)⟩
   refine w_x rfl (fun w1 h1 => x_mv rfl) ?_
   refine w_x rfl (fun w1 h1 => x_mv rfl) ?_
   refine w_x rfl (fun w1 h1 => x_sub rfl rfl (by omega)) ?_
   refine w_index EI rfl (vec_rd (S1b.at 0 rfl)) rfl rfl Tryz.runUnderlying24 Tryz.sizeOf3 (by omega) (by rw [show ((k : Int) - 1).toNat = k - 1 by omega]; exact hz) ?_
   intro b2 o3 hat4 row5
   refine w_x rfl (fun w1 h1 => x_load rfl (ld_cell Tryz.isAgg3 ((row5.le h1) 0 _ rfl))) ?_
   refine w_x rfl (fun w1 h1 => x_mv rfl) ?_
   refine w_x rfl (fun w1 h1 => x_mv rfl) ?_
   refine w_index EI rfl (hL.le S1b.le) rfl rfl Tryz.runUnderlying24 Tryz.sizeOf3 (by omega) ha ?_
   intro b6 o7 hat8 row9
   refine w_x rfl (fun w1 h1 => x_load rfl (ld_cell Tryz.isAgg3 ((row9.le h1) 0 _ rfl))) ?_
   refine w_x rfl (fun w1 h1 => x_gtr rfl rfl) ?_
   refine w_x rfl (fun w1 h1 => x_pick_t rfl rfl) ?_
   refine w_nil ?_
   intro w10 hl11
   have S12 := S1b.step hl11
   refine l_nil ?_
   refine r_ifd rfl (fun hc28 => ?_) (fun hc28 => ?_)
   ·skip
    refine r_skip ?_
    refine r_block ?_
    refine r_region ?_
    refine l_m rfl ?_
    refine l_x rfl (x_sub rfl rfl (by omega)) ?_
    refine l_a rfl ?_
    refine l_nil ?_
    refine r_inBlock ?_
    exact IHb (k - 1) _ _ (by omega) ⟨rfl, rfl, rfl, (congrArg (Value.int .i64) (by omega)), trivial⟩ ⟨by omega, dropI_more hz (by omega) hc28 hdk, (S12.take 1)⟩
   refine r_exit rfl ?_
   refine r_seq ?_
   refine r_region ?_
   refine l_buildSlice EI [] S12 rfl Tryz.runUnderlying24 Tryz.sizeOf3 Tryz.zeroValue3 rfl trivial (Nat.le_of_ble_eq_true rfl) ?_
   intro v16 w13 S14 hl15
   refine l_m rfl ?_
   refine l_m rfl ?_
   refine l_head (vec_rd (S14.at 0 rfl)) rfl rfl rfl Tryz.runUnderlying24 Tryz.sizeOf3 (by omega) ?_
   intro v17 ht18
   refine l_append EI S14 1 rfl rfl rfl rfl ht18 Tryz.underlying24 info3 rfl rfl rfl (apn8 (k := (k : Int).toNat) (a := a) hol hi9).1.1 (apn8 (k := (k : Int).toNat) (a := a) hol hi9).1.2 ?_
   intro v22 w19 S20 hk21 hv23
   refine l_a rfl ?_
   refine l_nil ?_
   refine r_seq ?_
   refine r_region ?_
   refine l_m rfl ?_
   refine l_m rfl ?_
   refine l_m rfl ?_
   refine l_index EI rfl (hL.le S20.le) rfl rfl Tryz.runUnderlying24 Tryz.sizeOf3 (by omega) ha ?_
   intro b24 o25 hat26 row27
   refine l_x rfl (x_load rfl (ld_cell Tryz.isAgg3 (row27 0 _ rfl))) ?_
   refine l_buildSlice EI [a] S20 rfl Tryz.runUnderlying24 Tryz.sizeOf3 Tryz.zeroValue3 rfl ⟨rfl, rfl, trivial⟩ (Nat.le_of_ble_eq_true rfl) ?_
   intro v31 w28 S29 hl30
   refine l_append EI S29 1 rfl rfl rfl rfl (vec_rd (S29.at 2 rfl)) Tryz.underlying24 info3 rfl rfl rfl (apn8 (k := (k : Int).toNat) (a := a) hol hi9).2.1.1 (apn8 (k := (k : Int).toNat) (a := a) hol hi9).2.1.2 ?_
   intro v35 w32 S33 hk34 hv36
   refine l_a rfl ?_
   refine l_nil ?_
   refine r_region ?_
   refine l_m rfl ?_
   refine l_m rfl ?_
   refine l_m rfl ?_
   refine l_tail S33 0 rfl rfl rfl rfl Tryz.runUnderlying24 Tryz.sizeOf3 (by omega) ?_
   intro v37 ht38
   refine l_append EI S33 1 rfl rfl rfl rfl (tail_rd ht38 (S33.at 0 rfl)) Tryz.underlying24 info3 rfl rfl rfl (apn8 (k := (k : Int).toNat) (a := a) hol hi9).2.2.1 (apn8 (k := (k : Int).toNat) (a := a) hol hi9).2.2.2 ?_
   intro v42 w39 S40 hk41 hv43
   refine l_a rfl ?_
   refine l_nil ?_
   refine r_inBlock ?_
   refine r_region ?_
   refine l_m rfl ?_
   refine l_x rfl (x_add rfl rfl (by omega)) ?_
   refine l_a rfl ?_
   refine l_nil ?_
   exact IH (i + 1, [] ++ out.take (k : Int).toNat ++ [a] ++ out.drop (k : Int).toNat, v42) _ _ (by dsimp only; omega) ⟨rfl, rfl, rfl, trivial⟩ ⟨by omega, put_perm hp ha, put_sorted hs (.inr ⟨z, hz, hc28⟩) hdk, (S40.pick (L' := [_]) [1] (by decide) rfl)⟩
  refine w_pass rfl ?_
  refine w_pass rfl ?_
  refine w_pass rfl ?_
  refine w_pass rfl ?_
  refine w_pass rfl ?_
  refine w_pass rfl ?_
  refine w_pass rfl ?_
  refine w_pass rfl ?_
  refine w_pass rfl ?_
  refine w_pass rfl ?_
  refine w_x rfl (fun w1 h1 => x_pick_f rfl rfl) ?_
  refine w_nil ?_
  intro w44 hl45
  have S46 := S1b.step hl45
  refine l_nil ?_
  refine r_false rfl ?_
  refine r_exit rfl ?_
  refine r_seq ?_
  refine r_region ?_
  refine l_buildSlice EI [] S46 rfl Tryz.runUnderlying24 Tryz.sizeOf3 Tryz.zeroValue3 rfl trivial (Nat.le_of_ble_eq_true rfl) ?_
  intro v50 w47 S48 hl49
  refine l_m rfl ?_
  refine l_m rfl ?_
  refine l_head (vec_rd (S48.at 0 rfl)) rfl rfl rfl Tryz.runUnderlying24 Tryz.sizeOf3 (by omega) ?_
  intro v51 ht52
  refine l_append EI S48 1 rfl rfl rfl rfl ht52 Tryz.underlying24 info3 rfl rfl rfl (apn8 (k := (k : Int).toNat) (a := a) hol hi9).1.1 (apn8 (k := (k : Int).toNat) (a := a) hol hi9).1.2 ?_
  intro v56 w53 S54 hk55 hv57
  refine l_a rfl ?_
  refine l_nil ?_
  refine r_seq ?_
  refine r_region ?_
  refine l_m rfl ?_
  refine l_m rfl ?_
  refine l_m rfl ?_
  refine l_index EI rfl (hL.le S54.le) rfl rfl Tryz.runUnderlying24 Tryz.sizeOf3 (by omega) ha ?_
  intro b58 o59 hat60 row61
  refine l_x rfl (x_load rfl (ld_cell Tryz.isAgg3 (row61 0 _ rfl))) ?_
  refine l_buildSlice EI [a] S54 rfl Tryz.runUnderlying24 Tryz.sizeOf3 Tryz.zeroValue3 rfl ⟨rfl, rfl, trivial⟩ (Nat.le_of_ble_eq_true rfl) ?_
  intro v65 w62 S63 hl64
  refine l_append EI S63 1 rfl rfl rfl rfl (vec_rd (S63.at 2 rfl)) Tryz.underlying24 info3 rfl rfl rfl (apn8 (k := (k : Int).toNat) (a := a) hol hi9).2.1.1 (apn8 (k := (k : Int).toNat) (a := a) hol hi9).2.1.2 ?_
  intro v69 w66 S67 hk68 hv70
  refine l_a rfl ?_
  refine l_nil ?_
  refine r_region ?_
  refine l_m rfl ?_
  refine l_m rfl ?_
  refine l_m rfl ?_
  refine l_tail S67 0 rfl rfl rfl rfl Tryz.runUnderlying24 Tryz.sizeOf3 (by omega) ?_
  intro v71 ht72
  refine l_append EI S67 1 rfl rfl rfl rfl (tail_rd ht72 (S67.at 0 rfl)) Tryz.underlying24 info3 rfl rfl rfl (apn8 (k := (k : Int).toNat) (a := a) hol hi9).2.2.1 (apn8 (k := (k : Int).toNat) (a := a) hol hi9).2.2.2 ?_
  intro v76 w73 S74 hk75 hv77
  refine l_a rfl ?_
  refine l_nil ?_
  refine r_inBlock ?_
  refine r_region ?_
  refine l_m rfl ?_
  refine l_x rfl (x_add rfl rfl (by omega)) ?_
  refine l_a rfl ?_
  refine l_nil ?_
  exact IH (i + 1, [] ++ out.take (k : Int).toNat ++ [a] ++ out.drop (k : Int).toNat, v76) _ _ (by dsimp only; omega) ⟨rfl, rfl, rfl, trivial⟩ ⟨by omega, put_perm hp ha, put_sorted hs (.inl (by omega)) hdk, (S74.pick (L' := [_]) [1] (by decide) rfl)⟩
 obtain rfl : i = l.length := by omega
 rw [List.take_length] at hp
 refine r_exit rfl ?_
 refine r_seq ?_
 refine r_region ?_
 refine l_m rfl ?_
 refine l_a rfl ?_
 refine l_nil ?_
 refine r_ret (rs := [.tmp 2]) [_] Tryz.func116 rfl ⟨rfl, trivial⟩ ?_
 exact ⟨by rw [asc_eq hp.symm hs]; exact S1.new 0 rfl, S1.le⟩

set_option maxHeartbeats 2000000 in
theorem c_rIdle (rs : List Rw) (vl : Value) (known : Int) (w : World) (hD : DsR 26 3 w vl rs) :
  Cl Tryz.prog 52 #[vl, .int .i64 known] w fun v w' => New w w' (vec EI v (idleD (dl rs) known)) ∧ Le w w' := by
 refine fn_of_run (args := [_, _]) 13 Tryz.func52 rfl rfl rfl fun cs => ?_
 have S := Own.start (X := nob) w
 refine r_seq ?_
 refine r_region ?_
 refine l_a rfl ?_
 refine l_nil ?_
 refine r_seq ?_
 refine r_region ?_
 refine l_m rfl ?_
 refine l_m rfl ?_
 refine l_call [] [] [_, _] rfl rfl Tryz.call50 rfl (c_rCounting rs vl known _ (hD.le S.le)) ?_
 rintro v71 w1 ⟨rq71, hq71, hm71, hN71, hl71⟩
 have S2 := S.add hl71 hN71
 obtain ⟨rq, hrqe⟩ : ∃ q, q = rq71 := ⟨_, rfl⟩
 subst hrqe
 have hqq := hq71
 have hqm := hm71
 have hlq := ctg_len hqq
 obtain ⟨hqp, hqs⟩ := ctg_play hqq
 refine l_call [] [] [_, _] rfl rfl Tryz.call87 rfl (c_rplay rq _ 100000 hqp hqs _ (hD.mem (S2).le (vec_rd ((S2).at 0 rfl)) hqm (by omega))) ?_
 rintro _ w3 ⟨bs, ns, ms, hms, rfl, hb5⟩
 have S4 := S2.join hb5
 obtain ⟨r, hO, S6⟩ := Own.stOpen (A := [_]) S4
 refine l_x rfl (x_nilCheck rfl) ?_
 refine l_x rfl (x_fieldAddr rfl Tryz.runUnderlying108 rfl Tryz.sizeOf24 (by decide)) ?_
 refine l_x rfl (x_load rfl (ld_blk (S6.blk 1 rfl) Tryz.isAgg24 stI_get)) ?_
 refine l_call [] [] [_] rfl rfl Tryz.call116 rfl (c_rasc r.is _ (by rw [hO.i]; have := (play_okay hqp hqs 100000).i.il; have := List.length_filter_le (fun x => decide (x.day ≤ 100000)) (dl rq); rw [dl_len] at this; omega) _ (vec_rd (S6.at 5 rfl))) ?_
 rintro v127 w7 ⟨hN127, hl127⟩
 have S8 := S6.add hl127 hN127
 refine l_a rfl ?_
 refine l_nil ?_
 refine r_ret (rs := [.tmp 4]) [_] Tryz.func52 rfl ⟨rfl, trivial⟩ ?_
 exact ⟨by have hN := S8.new 6 rfl; rw [hO.i, ctg_on hqq] at hN; exact hN, S8.le⟩

end Go.Proofs
