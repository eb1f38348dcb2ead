/- Texts joined for claims: F20, F21, F22, F23, F24, F25, F27, F28, L0, R0, L1, G1, G2, G3, G4, G5. -/
import Derived.Test.YtdikpjkdbgfoaaaGreatKd5959d9c05
import Derived.Test.YtdikpjkdbgfoaaaGreatKf4cd3ff627
import Derived.Test.YtdikpjkdbgfoaaaGreatRows
import Derived.Test.YtdikpjkdbgfoaaaGreatKefe9cf19db
import Derived.Test.YtdikpjkdbgfoaaaGreatK5236fa4add
set_option linter.unusedVariables false
set_option linter.unusedSimpArgs false
set_option linter.unusedSectionVars false
namespace Go.Proofs
open Go Go.Vk Go.Vk.Flow

open Go.Vk.Deed
theorem pl_of {l : List D} {known day : Int} {l' M : List Pl} (hp : l'.Perm M) (hM : M.Perm (onD l known day).pledges) (hs : SortedL (fun x y : Pl => cmpI x.deed y.deed) l') : l' = pledgesD l known day := by
 refine sorted_key (fun x : Pl => x.deed) (hp.trans hM) (hs.imp fun h => ?_) (on_pn l known day)
 simp only [ltOf, cmpI] at h
 revert h; repeat' split
 all_goals first | omega | (simp; done) | (simp; omega)
theorem vis_len_pl {s : St} (h : StB s) {pf : Int → Option Pl} (hp : ∀ k, pf k = plOf s k) {vis : List (Int × Pl)} (hv : Vis pf vis) : vis.length ≤ 400 := by
 have hsub : ∀ q ∈ vis, q ∈ plM s := fun q hq => plM_all q.1 q.2 (by rw [← hp]; exact hv.of q hq)
 exact Nat.le_trans (nodup_le (nodup_of_keys hv.nd) hsub) (by rw [plM, List.length_map]; exact h.pl)

set_option maxHeartbeats 2000000 in
theorem c_Pledges (rs : List Rw) (vl : Value) (known : Int) (day : Int) (w : World) (hD : DsR 26 3 w vl rs) :
  Cl Tryz.prog 71 #[vl, .int .i64 known, .int .i64 day] w fun v w' => New w w' (vec EPL v (pledgesD (dl rs) known day)) ∧ Le w w' := by
 have hB := on_stb (dl rs) known day
 refine fn_of_run (args := [_, _, _]) 28 Tryz.func71 rfl rfl rfl fun cs => ?_
 have S := Own.start (X := nob) w
 refine r_seq ?_
 refine r_region ?_
 refine l_a rfl ?_
 refine l_nil ?_
 refine r_seq ?_
 refine r_region ?_
 refine l_a rfl ?_
 have S1 := S.nilvec (E := EPL)
 refine l_nil ?_
 refine r_seq ?_
 refine r_seq ?_
 refine r_region ?_
 refine l_m rfl ?_
 refine l_m rfl ?_
 refine l_m rfl ?_
 refine l_call [] [] [_, _, _] rfl rfl Tryz.call82 rfl (c_on rs vl known day _ (hD.le S1.le)) ?_
 rintro _ w2 ⟨b8, n9, rfl, h7⟩
 have S3 := S1.join h7
 obtain ⟨hs, pf, sf, hok, S4⟩ := Own.rollOpen (A := [_]) S3
 have S5 := S4.pick (L' := [_, _, _]) [0, 1, 4] (by decide) rfl
 obtain ⟨es, clock, hm, hM⟩ := S5.at 2 rfl
 have S6 := S5.as 2 rfl (r' := obj n9.p (.map es clock)) hm (fun c h => h)
 refine l_x rfl (x_nilCheck rfl) ?_
 refine l_x rfl (x_fieldAddr rfl Tryz.runUnderlying96 rfl Tryz.sizeOf93 (by decide)) ?_
 refine l_x rfl (x_load rfl (ld_blk (S6.blk 1 rfl) Tryz.isAgg93 rfl)) ?_
 refine l_range kInt plV S6 rfl Tryz.runUnderlying93 rfl (S6.obj 2 rfl) ?_
 intro it13 w10 S11 hl12
 refine l_nil ?_
 refine r_block ?_
 refine r_loop (G := List (Int × Pl) × Value) (fun ⟨vis, vo⟩ => es.size - vis.length) (fun ⟨vis, vo⟩ => [(7, vo), (17, .pointer (some ⟨it13, 0, none⟩))]) (fun ⟨vis, vo⟩ w' => (Vis pf vis) ∧ Own nob w w' [vec EPL vo (vis.map (·.2)), blk b8 (rollC n9) 96, obj n9.p (.map es clock), itr kInt plV it13 n9.p es clock vis]) ([], .slice none 0 0) ⟨rfl, rfl, trivial⟩ ⟨.nil, (S11.take 4)⟩ ?_
 rintro ⟨vis, vo⟩ ρ w1 ⟨hV, S1⟩ IH
 have hvl := vis_len_pl hB hok.p hV
 refine r_seq ?_
 refine r_region ?_
 refine l_next S1 3 rfl rfl keyI plV_inj hM rfl (S1.obj 2 rfl) (fun hAll => ?_) (fun c a w14 hfc hnew S15 hk16 => ?_)
 ·skip
  refine l_x rfl (x_extract rfl rfl) ?_
  refine l_nil ?_
  refine r_seq ?_
  refine r_false rfl ?_
  refine r_exit rfl ?_
  refine r_seq ?_
  refine r_region ?_
  refine l_m rfl ?_
  refine l_call [] [] [_, _] rfl rfl Tryz.call123 rfl (c_sortedPl _ _ (by have := vis_len_pl hB hok.p hV; rw [List.length_map]; omega) _ (vec_rd (S1.at 0 rfl))) ?_
  rintro v2717 w17 ⟨l2717, hp2717, hs2717, hN2717, hl2717⟩
  have S18 := S1.add hl2717 hN2717
  refine l_a rfl ?_
  refine l_nil ?_
  refine r_ret (rs := [.tmp 6]) [_] Tryz.func71 rfl ⟨rfl, trivial⟩ ?_
  obtain rfl : l2717 = pledgesD (dl rs) known day := pl_of hp2717 (pl_perm hB hok.p hV hAll) hs2717
  exact ⟨S18.new 4 rfl, S18.le⟩
 have hlen := itr_len (S15.at 3 rfl)
 rw [List.length_append, List.length_singleton] at hlen
 have hV2 := hV.step hfc hnew
 refine l_x rfl (x_extract rfl rfl) ?_
 refine l_nil ?_
 refine r_seq ?_
 refine r_true rfl ?_
 refine r_skip ?_
 refine r_block ?_
 refine r_seq ?_
 refine r_region ?_
 refine l_x rfl (x_entry (S15.at 3 rfl) hM (S15.obj 2 rfl) rfl) ?_
 refine l_x rfl (x_extract rfl rfl) ?_
 refine l_alloc S15 rfl Tryz.zeroValue86 rfl ?_
 intro b22 w19 S20 hl21
 refine l_stores (vs := [_, _, _, _]) S20 4 rfl rfl rfl rfl (ones_cons rfl (ones_cons rfl (ones_cons rfl (ones_cons rfl ones_nil)))) Tryz.sizeOf86 (by first | exact Nat.le_refl _ | simp) (splice_all rfl) ?_
 intro w23 S24 hk25
 refine l_nil ?_
 refine r_region ?_
 refine l_m rfl ?_
 refine l_x rfl (x_load rfl (ld_blks (S24.blk 4 rfl) Tryz.isAgg86 Tryz.sizeOf86 rfl rfl)) ?_
 refine l_buildSlice EPL [a] S24 rfl Tryz.runUnderlying81 Tryz.sizeOf86 Tryz.zeroValue86 rfl ⟨rfl, rfl, trivial⟩ (Nat.le_of_ble_eq_true rfl) ?_
 intro v29 w26 S27 hl28
 refine l_append EPL S27 0 rfl rfl rfl rfl (vec_rd (S27.at 5 rfl)) Tryz.underlying81 info86 rfl rfl rfl (by unfold maxLen; rw [List.length_map, List.length_singleton]; omega) (by rw [List.length_map, List.length_singleton]; show _ * 32 ≤ _; omega) ?_
 intro v33 w30 S31 hk32 hv34
 refine l_a rfl ?_
 refine l_nil ?_
 refine r_inBlock ?_
 exact IH (vis ++ [(c, a)], v33) _ _ (by dsimp only; rw [List.length_append, List.length_singleton]; omega) ⟨rfl, rfl, trivial⟩ ⟨hV2, (by rw [List.map_append]; exact S31.take 4)⟩

end Go.Proofs

namespace Go.Proofs
open Go Go.Vk Go.Vk.Flow

open Go.Vk.Deed
theorem sum_map_opt (g : Int → Option Int) (l : List Int) : sumI ((l.filterMap fun o => (g o).map fun a => (o, a)).map (·.2)) = sumI (l.map fun o => (g o).getD 0) := by
 induction l with
 | nil => rfl
 | cons x l ih =>
  rw [List.map_cons, sumI_cons, List.filterMap_cons]
  cases h : g x with
  | none => simp [ih]
  | some a => simp [sumI_cons, ih]
theorem owners_nodup : owners.Nodup := by decide +kernel
theorem filterMap_keys (g : Int → Option Int) (l : List Int) (hn : l.Nodup) : ((l.filterMap fun o => (g o).map fun a => (o, a)).map (·.1)).Nodup := by
 have e : (l.filterMap fun o => (g o).map fun a => (o, a)).map (·.1) = l.filter fun o => (g o).isSome := by
  induction l with
  | nil => rfl
  | cons x l ih =>
   rw [List.filterMap_cons, List.filter_cons]
   rw [List.nodup_cons] at hn
   cases h : g x with
   | none => simp [ih hn.2]
   | some a => simp [ih hn.2]
 rw [e]; exact hn.sublist List.filter_sublist
theorem total_of {s : St} {hs : Int → Option Int} (h : ∀ o, (hs o).getD 0 = s.holds o) (hown : ∀ o a, hs o = some a → 1 ≤ o ∧ o ≤ 40) {vis : List (Int × Int)} (hv : Vis hs vis) (hall : ∀ k a, hs k = some a → (k, a) ∈ vis) :
  sumI (vis.map (·.2)) = sumI (owners.map s.holds) := by
 have hM : Vis hs (owners.filterMap fun o => (hs o).map fun a => (o, a)) := ⟨filterMap_keys hs owners owners_nodup, fun p hp => by
  obtain ⟨o, ho, e⟩ := List.mem_filterMap.1 hp
  cases g : hs o with
  | none => rw [g] at e; cases e
  | some a => rw [g] at e; cases e; exact g⟩
 have hMa : ∀ k a, hs k = some a → (k, a) ∈ owners.filterMap fun o => (hs o).map fun a => (o, a) := fun k a g =>
  List.mem_filterMap.2 ⟨k, mem_owners.2 (hown k a g), by rw [g]; rfl⟩
 rw [sumI_perm ((hv.perm hall hM hMa).map (·.2)), sum_map_opt]
 exact congrArg sumI (List.map_congr_left fun o _ => h o)
theorem total_bd {s : St} (hB : StB s) {hs : Int → Option Int} (h : ∀ o, (hs o).getD 0 = s.holds o) (hown : ∀ o a, hs o = some a → 1 ≤ o ∧ o ≤ 40) {vis : List (Int × Int)} (hv : Vis hs vis) :
  0 ≤ sumI (vis.map (·.2)) ∧ sumI (vis.map (·.2)) ≤ 100000000000000 := by
 have hl : vis.length ≤ 40 := by
  have h1 := nodup_le (l := vis.map (·.1)) (m := owners) hv.nd fun x hx => by
   obtain ⟨q, hq, rfl⟩ := List.mem_map.1 hx
   exact mem_owners.2 (hown _ _ (hv.of q hq))
  rw [List.length_map] at h1; exact h1
 have hb : ∀ q ∈ vis, 0 ≤ q.2 ∧ q.2 ≤ 1000000000000 := fun q hq => by
  have h1 := h q.1
  rw [hv.of q hq] at h1
  have := hB.hb q.1
  rw [← h1] at this
  simp only [Option.getD_some] at this; omega
 have key : ∀ l : List (Int × Int), (∀ q ∈ l, 0 ≤ q.2 ∧ q.2 ≤ 1000000000000) → 0 ≤ sumI (l.map (·.2)) ∧ sumI (l.map (·.2)) ≤ 1000000000000 * l.length := by
  intro l
  induction l with
  | nil => intro _; simp [sumI]
  | cons x l ih =>
   intro g
   have h1 := ih fun q hq => g q (List.mem_cons_of_mem _ hq)
   have h2 := g x (List.mem_cons_self ..)
   rw [List.map_cons, sumI_cons, List.length_cons]; omega
 have := key vis hb
 omega
theorem sumI_snoc (l : List Int) (x : Int) : sumI (l ++ [x]) = sumI l + x := by
 rw [sumI_perm (List.perm_append_comm : (l ++ [x]).Perm ([x] ++ l)), List.singleton_append, sumI_cons]; omega

set_option maxHeartbeats 2000000 in
theorem c_Total (rs : List Rw) (vl : Value) (known : Int) (day : Int) (w : World) (hD : DsR 26 3 w vl rs) :
  Cl Tryz.prog 24 #[vl, .int .i64 known, .int .i64 day] w fun v w' => v = .int .i64 (totalD (dl rs) known day) ∧ Le w w' := by
 have hB := on_stb (dl rs) known day
 refine fn_of_run (args := [_, _, _]) 26 Tryz.func24 rfl rfl rfl fun cs => ?_
 have S := Own.start (X := nob) w
 refine r_seq ?_
 refine r_region ?_
 refine l_a rfl ?_
 refine l_nil ?_
 refine r_seq ?_
 refine r_region ?_
 refine l_a rfl ?_
 refine l_nil ?_
 refine r_seq ?_
 refine r_seq ?_
 refine r_region ?_
 refine l_m rfl ?_
 refine l_m rfl ?_
 refine l_m rfl ?_
 refine l_call [] [] [_, _, _] rfl rfl Tryz.call82 rfl (c_on rs vl known day _ (hD.le S.le)) ?_
 rintro _ w1 ⟨b7, n8, rfl, h6⟩
 have S2 := S.join h6
 obtain ⟨hs, pf, sf, hok, S3⟩ := Own.rollOpen (A := []) S2
 have S4 := S3.pick (L' := [_, _]) [0, 1] (by decide) rfl
 obtain ⟨es, clock, hm, hM⟩ := S4.at 1 rfl
 have S5 := S4.as 1 rfl (r' := obj n8.h (.map es clock)) hm (fun c h => h)
 refine l_x rfl (x_nilCheck rfl) ?_
 refine l_x rfl (x_fieldAddr rfl Tryz.runUnderlying96 rfl Tryz.sizeOf91 (by decide)) ?_
 refine l_x rfl (x_load rfl (ld_blk (S5.blk 0 rfl) Tryz.isAgg91 rfl)) ?_
 refine l_range kInt kInt S5 rfl Tryz.runUnderlying91 rfl (S5.obj 1 rfl) ?_
 intro it12 w9 S10 hl11
 refine l_nil ?_
 refine r_block ?_
 refine r_loop (G := List (Int × Int)) (fun vis => es.size - vis.length) (fun vis => [(7, .int .i64 (sumI (vis.map (·.2)))), (17, .pointer (some ⟨it12, 0, none⟩))]) (fun vis w' => (Vis hs vis) ∧ Own nob w w' [blk b7 (rollC n8) 96, obj n8.h (.map es clock), itr kInt kInt it12 n8.h es clock vis]) [] ⟨rfl, rfl, trivial⟩ ⟨.nil, (S10.take 3)⟩ ?_
 rintro vis ρ w1 ⟨hV, S1⟩ IH
 have hbd := total_bd hB hok.h hok.own hV
 refine r_seq ?_
 refine r_region ?_
 refine l_next S1 2 rfl rfl keyI (fun _ _ h => by cases h; rfl) hM rfl (S1.obj 1 rfl) (fun hAll => ?_) (fun c a w13 hfc hnew S14 hk15 => ?_)
 ·skip
  refine l_x rfl (x_extract rfl rfl) ?_
  refine l_nil ?_
  refine r_seq ?_
  refine r_false rfl ?_
  refine r_exit rfl ?_
  refine r_seq ?_
  refine r_region ?_
  refine l_m rfl ?_
  refine l_a rfl ?_
  refine l_nil ?_
  refine r_ret (rs := [.tmp 6]) [_] Tryz.func24 rfl ⟨rfl, trivial⟩ ?_
  exact ⟨congrArg (Value.int .i64) (total_of hok.h hok.own hV hAll), S1.le⟩
 have hlen := itr_len (S14.at 2 rfl)
 rw [List.length_append, List.length_singleton] at hlen
 have hV2 := hV.step hfc hnew
 have hbd2 := total_bd hB hok.h hok.own hV2
 rw [List.map_append, List.map_cons, List.map_nil, sumI_snoc] at hbd2
 dsimp only at hbd2
 refine l_x rfl (x_extract rfl rfl) ?_
 refine l_nil ?_
 refine r_seq ?_
 refine r_true rfl ?_
 refine r_skip ?_
 refine r_block ?_
 refine r_seq ?_
 refine r_region ?_
 refine l_x rfl (x_entry (S14.at 2 rfl) hM (S14.obj 1 rfl) rfl) ?_
 refine l_x rfl (x_extract rfl rfl) ?_
 refine l_a rfl ?_
 refine l_nil ?_
 refine r_region ?_
 refine l_m rfl ?_
 refine l_m rfl ?_
 refine l_x rfl (x_add rfl rfl (by omega)) ?_
 refine l_a rfl ?_
 refine l_nil ?_
 refine r_inBlock ?_
 exact IH (vis ++ [(c, a)]) _ _ (by rw [List.length_append, List.length_singleton]; omega) ⟨(congrArg (Value.int .i64) (by rw [List.map_append, List.map_cons, List.map_nil, sumI_snoc])), rfl, trivial⟩ ⟨hV2, (S14.take 3)⟩

end Go.Proofs

namespace Go.Proofs
open Go Go.Vk Go.Vk.Flow

open Go.Vk.Deed
theorem owners_get {k : Nat} (h : k < 40) : owners[k]? = some ((k : Int) + 1) := by
 rw [owners, List.getElem?_map, List.getElem?_range h]; rfl
abbrev touP (l : List D) (a b day : Int) (o : Int) : Bool := decide (usesD l a day o ≠ usesD l b day o)
theorem owners_len : owners.length = 40 := by simp [owners]

set_option maxHeartbeats 2000000 in
theorem c_Touched (rs : List Rw) (vl : Value) (a b day : Int) (w : World) (hD : DsR 26 3 w vl rs) :
  Cl Tryz.prog 32 #[vl, .int .i64 a, .int .i64 b, .int .i64 day] w fun v w' => New w w' (vec EI v (touchedD (dl rs) a b day)) ∧ Le w w' := by
 have hfl := fun k => List.length_filter_le (touP (dl rs) a b day) (owners.take k)
 refine fn_of_run (args := [_, _, _, _]) 31 Tryz.func32 rfl rfl rfl fun cs => ?_
 have S := Own.start (X := nob) w
 refine r_seq ?_
 refine r_region ?_
 refine l_a rfl ?_
 refine l_nil ?_
 refine r_seq ?_
 refine r_region ?_
 refine l_a rfl ?_
 have S1 := S.nilvec (E := EI)
 refine l_nil ?_
 refine r_seq ?_
 refine r_seq ?_
 refine r_region ?_
 refine l_a rfl ?_
 refine l_nil ?_
 refine r_block ?_
 refine r_loop (G := Nat × Value) (fun ⟨k, vo⟩ => 40 - k) (fun ⟨k, vo⟩ => [(0, vl), (1, .int .i64 a), (2, .int .i64 b), (3, .int .i64 day), (9, vo), (10, .int .i64 ((k : Int) + 1))]) (fun ⟨k, vo⟩ w' => (k ≤ 40) ∧ Own nob w w' [vec EI vo ((owners.take k).filter (touP (dl rs) a b day))]) (0, .slice none 0 0) ⟨rfl, rfl, rfl, rfl, rfl, rfl, trivial⟩ ⟨Nat.zero_le _, (S1.take 1)⟩ ?_
 rintro ⟨k, vo⟩ ρ w1 ⟨hk, S1⟩ IH
 refine r_seq ?_
 refine r_seq ?_
 refine r_region ?_
 refine l_m rfl ?_
 refine l_x rfl (x_leq rfl rfl) ?_
 refine l_nil ?_
 refine r_ifd rfl (fun hc12 => ?_) (fun hc12 => ?_)
 ·skip
  refine r_skip ?_
  refine r_seq ?_
  refine r_block ?_
  refine r_seq ?_
  refine r_region ?_
  refine l_m rfl ?_
  refine l_m rfl ?_
  refine l_m rfl ?_
  refine l_m rfl ?_
  refine l_call [] [] [_, _, _, _] rfl rfl Tryz.call36 rfl (c_Uses rs vl _ _ _ _ (hD.le S1.le)) ?_
  rintro _ w2 ⟨rfl, hl4⟩
  have S3 := S1.step hl4
  refine l_m rfl ?_
  refine l_m rfl ?_
  refine l_m rfl ?_
  refine l_m rfl ?_
  refine l_call [] [] [_, _, _, _] rfl rfl Tryz.call36 rfl (c_Uses rs vl _ _ _ _ (hD.le S3.le)) ?_
  rintro _ w5 ⟨rfl, hl7⟩
  have S6 := S3.step hl7
  refine l_x rfl (x_neq rfl rfl) ?_
  refine l_nil ?_
  refine r_ifd rfl (fun hc25 => ?_) (fun hc25 => ?_)
  ·skip
   refine r_region ?_
   refine l_m rfl ?_
   refine l_m rfl ?_
   refine l_buildSlice EI [(k : Int) + 1] S6 rfl Tryz.runUnderlying24 Tryz.sizeOf3 Tryz.zeroValue3 rfl ⟨rfl, rfl, trivial⟩ (Nat.le_of_ble_eq_true rfl) ?_
   intro v11 w8 S9 hl10
   refine l_append EI S9 0 rfl rfl rfl rfl (vec_rd (S9.at 1 rfl)) Tryz.underlying24 info3 rfl rfl rfl (by have := hfl k; rw [List.length_take] at this; unfold maxLen; rw [List.length_singleton]; omega) (by have := hfl k; rw [List.length_take] at this; rw [List.length_singleton]; show _ * 8 ≤ _; omega) ?_
   intro v15 w12 S13 hk14 hv16
   refine l_a rfl ?_
   refine l_nil ?_
   refine r_inBlock ?_
   refine r_region ?_
   refine l_m rfl ?_
   refine l_x rfl (x_add rfl rfl (by omega)) ?_
   refine l_a rfl ?_
   refine l_nil ?_
   exact IH (k + 1, v15) _ _ (by dsimp only; omega) ⟨rfl, rfl, rfl, rfl, rfl, rfl, trivial⟩ ⟨by omega, (by rw [filter_step (owners_get (by omega)), if_pos (by simp only [touP]; first | (simp_all; done) | (simp_all; intros; omega))]; exact S13.take 1)⟩
  refine r_skip ?_
  refine r_inBlock ?_
  refine r_region ?_
  refine l_m rfl ?_
  refine l_x rfl (x_add rfl rfl (by omega)) ?_
  refine l_a rfl ?_
  refine l_nil ?_
  exact IH (k + 1, vo) _ _ (by dsimp only; omega) ⟨rfl, rfl, rfl, rfl, rfl, rfl, trivial⟩ ⟨by omega, (by rw [filter_step (owners_get (by omega)), if_neg (by simp only [touP]; first | (simp_all; done) | (simp_all; intros; omega))]; rw [List.append_nil]; exact S6.take 1)⟩
 obtain rfl : k = 40 := by omega
 refine r_exit rfl ?_
 refine r_seq ?_
 refine r_region ?_
 refine l_m rfl ?_
 refine l_a rfl ?_
 refine l_nil ?_
 refine r_ret (rs := [.tmp 8]) [_] Tryz.func32 rfl ⟨rfl, trivial⟩ ?_
 have hN := S1.new 0 rfl
 rw [List.take_of_length_le (by rw [owners_len]; omega)] at hN
 exact ⟨hN, S1.le⟩

theorem c_meet1 (b : List Int) (vb : Value) (x : Int) (bb : Nat) (hm : b.length ≤ 9223372036854775807) (w : World) (hb : Blk w bb [vb] 24) (hL : Rd EI w vb b) :
  Cl Tryz.prog 154 #[.int .i64 x, .pointer (some ⟨bb, 0, none⟩)] w fun v w' => v = .bool (b.contains x) ∧ Le w w' := by
 refine fn_of_run (args := [_, _]) 7 Tryz.func154 rfl rfl rfl fun cs => ?_
 have S := Own.start (X := nob) w
 refine r_seq ?_
 refine r_region ?_
 refine l_a rfl ?_
 refine l_nil ?_
 refine r_seq ?_
 refine r_region ?_
 refine l_x rfl (x_load rfl (ld_blk (hb.keep S.le id) Tryz.isAgg24 rfl)) ?_
 refine l_m rfl ?_
 refine l_call [] [] [_, _] rfl rfl Tryz.call83 rfl (c_Contains _ _ _ (by omega) _ (hL.le S.le)) ?_
 rintro _ w1 ⟨rfl, hl3⟩
 have S2 := S.step hl3
 refine l_a rfl ?_
 refine l_nil ?_
 refine r_ret (rs := [.tmp 3]) [_] Tryz.func154 rfl ⟨rfl, trivial⟩ ?_
 exact ⟨rfl, S2.le⟩

theorem c_meet (a b : List Int) (va vb : Value) (hma : a.length ≤ 9223372036854775807) (hmb : b.length ≤ 9223372036854775807) (w : World) (hA : Rd EI w va a) (hL : Rd EI w vb b) :
  Cl Tryz.prog 108 #[va, vb] w fun v w' => v = .bool (meetB a b) ∧ Le w w' := by
 refine fn_of_run (args := [_, _]) 8 Tryz.func108 rfl rfl rfl fun cs => ?_
 have S := Own.start (X := nob) w
 refine r_seq ?_
 refine r_region ?_
 refine l_box S rfl (Rd.cells (hL.le S.le)) ?_
 intro b4 w1 S2 hl3
 refine l_a rfl ?_
 refine l_nil ?_
 refine r_seq ?_
 refine r_region ?_
 refine l_m rfl ?_
 refine l_x rfl (x_func rfl rfl) ?_
 refine l_call [] [] [_, _] rfl rfl Tryz.call149 rfl (c_ContainsFuncInt _ a (fun x => b.contains x) 154 [_] (by omega) _ (hA.le S2.le) Tryz.call154 (fun x hx w1 h1 => c_meet1 b vb x _ (by omega) w1 ((S2.blk 0 rfl).keep h1 id) (hL.le (S2.le.trans h1)))) ?_
 rintro _ w5 ⟨rfl, hl7⟩
 have S6 := S2.step hl7
 refine l_a rfl ?_
 refine l_nil ?_
 refine r_ret (rs := [.tmp 4]) [_] Tryz.func108 rfl ⟨rfl, trivial⟩ ?_
 exact ⟨rfl, S6.le⟩

end Go.Proofs

namespace Go.Proofs
open Go Go.Vk Go.Vk.Flow

open Go.Vk.Deed

set_option maxHeartbeats 2000000 in
theorem c_Source (rs : List Rw) (vl : Value) (known : Int) (day o : Int) (w : World) (hD : DsR 26 3 w vl rs) :
  Cl Tryz.prog 29 #[vl, .int .i64 known, .int .i64 day, .int .i64 o] w fun v w' => ∃ v1 v2, v = .tuple #[v1, v2] ∧ Own nob w w' [vec EI v1 (sourceD (dl rs) known day o).1, vec EI v2 (sourceD (dl rs) known day o).2] := by
 have hB := on_stb (dl rs) known day
 have hil := idsS_len (onD (dl rs) known day) o
 refine fn_of_run (args := [_, _, _, _]) 42 Tryz.func29 rfl rfl rfl fun cs => ?_
 have S := Own.start (X := nob) w
 refine r_seq ?_
 refine r_region ?_
 refine l_a rfl ?_
 refine l_a rfl ?_
 refine l_nil ?_
 refine r_seq ?_
 refine r_region ?_
 refine l_m rfl ?_
 refine l_m rfl ?_
 refine l_m rfl ?_
 refine l_call [] [] [_, _, _] rfl rfl Tryz.call82 rfl (c_on rs vl known day _ (hD.le S.le)) ?_
 rintro _ w1 ⟨b6, n7, rfl, h5⟩
 have S2 := S.join h5
 obtain ⟨hs, pf, sf, hok, S3⟩ := Own.rollOpen (A := []) S2
 have S4 := S3.pack
 refine l_a rfl ?_
 refine l_nil ?_
 refine r_seq ?_
 refine r_region ?_
 refine l_m rfl ?_
 refine l_m rfl ?_
 refine l_call [] [] [_, _] rfl rfl Tryz.call85 rfl (c_entered _ _ _ hs pf sf _ _ (RollRO.mk hok (S4.ro 0 rfl))) ?_
 rintro v218 w8 ⟨hN218, hl218⟩
 have S9 := S4.add hl218 hN218
 refine l_a rfl ?_
 refine l_nil ?_
 refine r_seq ?_
 refine r_region ?_
 refine l_a rfl ?_
 have S10 := S9.nilvec (E := EI)
 refine l_nil ?_
 refine r_seq ?_
 refine r_seq ?_
 refine r_region ?_
 refine l_m rfl ?_
 refine l_x rfl (x_len (vec_rd (S10.at 1 rfl)) rfl Tryz.runUnderlying24) ?_
 refine l_m rfl ?_
 refine l_nil ?_
 refine r_block ?_
 refine r_loop (G := Nat × Value) (fun ⟨i, vo⟩ => (idsS (onD (dl rs) known day) o).length - i) (fun ⟨i, vo⟩ => [(3, .int .i64 o), (10, .pointer (some ⟨b6, 0, none⟩)), (11, v218), (12, vo), (22, v218), (23, .int .i64 (idsS (onD (dl rs) known day) o).length), (24, .int .i64 i)]) (fun ⟨i, vo⟩ w' => (i ≤ (idsS (onD (dl rs) known day) o).length) ∧ Own nob w w' [pack (rollL TY b6 n7 hs (onD (dl rs) known day).leases pf (onD (dl rs) known day).idle sf), vec EI v218 (idsS (onD (dl rs) known day) o), vec EI vo (((idsS (onD (dl rs) known day) o).take i).map ((onD (dl rs) known day).src o))]) (0, .slice none 0 0) ⟨rfl, rfl, rfl, rfl, rfl, rfl, rfl, trivial⟩ ⟨Nat.zero_le _, (S10.take 3)⟩ ?_
 rintro ⟨i, vo⟩ ρ w1 ⟨hi, S1⟩ IH
 refine r_seq ?_
 refine r_region ?_
 refine l_x rfl (x_lss rfl rfl) ?_
 refine l_nil ?_
 refine r_seq ?_
 refine r_ifd rfl (fun hc25 => ?_) (fun hc25 => ?_)
 ·skip
  obtain ⟨x, hx⟩ : ∃ x, (idsS (onD (dl rs) known day) o)[i]? = some x := ⟨_, List.getElem?_eq_getElem (by omega)⟩
  refine r_skip ?_
  refine r_seq ?_
  refine r_block ?_
  refine r_seq ?_
  refine r_region ?_
  refine l_index EI rfl (vec_rd (S1.at 1 rfl)) rfl rfl Tryz.runUnderlying24 Tryz.sizeOf3 (by omega) hx ?_
  intro b11 o12 hat13 row14
  refine l_x rfl (x_load rfl (ld_cell Tryz.isAgg3 (row14 0 _ rfl))) ?_
  refine l_a rfl ?_
  refine l_nil ?_
  rcases hin : n7.inn o with _ | mm
  ·skip
   have h0 : ((onD (dl rs) known day).src o) x = 0 := by rw [← hok.s o x, hok.none o hin x]; rfl
   refine r_region ?_
   refine l_m rfl ?_
   refine l_m rfl ?_
   refine l_x rfl (x_nilCheck rfl) ?_
   refine l_x rfl (x_fieldAddr rfl Tryz.runUnderlying96 rfl Tryz.sizeOf94 (by decide)) ?_
   refine l_x rfl (x_load rfl (ld_blk (RollRO.mk hok (S1.ro 0 rfl)).blk Tryz.isAgg94 rfl)) ?_
   refine l_m rfl ?_
   refine l_x rfl (x_lookup (RollRO.mk hok (S1.ro 0 rfl)).sm keyI Tryz.runUnderlying94 rfl rfl Tryz.zeroValue91 (by rw [hin] <;> rfl)) ?_
   refine l_m rfl ?_
   refine l_x rfl (x_lookup0 Tryz.runUnderlying91 keyI.u (keyI.is x) rfl rfl Tryz.zeroValue3) ?_
   refine l_buildSlice EI [0] S1 rfl Tryz.runUnderlying24 Tryz.sizeOf3 Tryz.zeroValue3 rfl ⟨rfl, rfl, trivial⟩ (Nat.le_of_ble_eq_true rfl) ?_
   intro v18 w15 S16 hl17
   refine l_append EI S16 2 rfl rfl rfl rfl (vec_rd (S16.at 3 rfl)) Tryz.underlying24 info3 rfl rfl rfl (by unfold maxLen; rw [List.length_map, List.length_take, List.length_singleton]; omega) (by rw [List.length_map, List.length_take, List.length_singleton]; show _ * 8 ≤ _; omega) ?_
   intro v22 w19 S20 hk21 hv23
   refine l_a rfl ?_
   refine l_nil ?_
   refine r_inBlock ?_
   refine r_region ?_
   refine l_x rfl (x_add rfl rfl (by omega)) ?_
   refine l_m rfl ?_
   refine l_nil ?_
   exact IH (i + 1, v22) _ _ (by dsimp only; omega) ⟨rfl, rfl, rfl, rfl, rfl, rfl, rfl, trivial⟩ ⟨by omega, (by rw [take_snoc _ i (by omega), (List.getElem?_eq_some_iff.1 hx).2, List.map_append, List.map_cons, List.map_nil]; rw [show ((onD (dl rs) known day).src o) x = 0 from h0]; exact S20.take 3)⟩
  skip
  refine r_region ?_
  refine l_m rfl ?_
  refine l_m rfl ?_
  refine l_x rfl (x_nilCheck rfl) ?_
  refine l_x rfl (x_fieldAddr rfl Tryz.runUnderlying96 rfl Tryz.sizeOf94 (by decide)) ?_
  refine l_x rfl (x_load rfl (ld_blk (RollRO.mk hok (S1.ro 0 rfl)).blk Tryz.isAgg94 rfl)) ?_
  refine l_m rfl ?_
  refine l_x rfl (x_lookup (RollRO.mk hok (S1.ro 0 rfl)).sm keyI Tryz.runUnderlying94 rfl rfl Tryz.zeroValue91 (by rw [hin] <;> rfl)) ?_
  refine l_m rfl ?_
  refine l_x rfl (x_lookup ((RollRO.mk hok (S1.ro 0 rfl)).em hin) keyI Tryz.runUnderlying91 rfl rfl Tryz.zeroValue3 (map_get0 (hok.s o x))) ?_
  refine l_buildSlice EI [((onD (dl rs) known day).src o) x] S1 rfl Tryz.runUnderlying24 Tryz.sizeOf3 Tryz.zeroValue3 rfl ⟨rfl, rfl, trivial⟩ (Nat.le_of_ble_eq_true rfl) ?_
  intro v27 w24 S25 hl26
  refine l_append EI S25 2 rfl rfl rfl rfl (vec_rd (S25.at 3 rfl)) Tryz.underlying24 info3 rfl rfl rfl (by unfold maxLen; rw [List.length_map, List.length_take, List.length_singleton]; omega) (by rw [List.length_map, List.length_take, List.length_singleton]; show _ * 8 ≤ _; omega) ?_
  intro v31 w28 S29 hk30 hv32
  refine l_a rfl ?_
  refine l_nil ?_
  refine r_inBlock ?_
  refine r_region ?_
  refine l_x rfl (x_add rfl rfl (by omega)) ?_
  refine l_m rfl ?_
  refine l_nil ?_
  exact IH (i + 1, v31) _ _ (by dsimp only; omega) ⟨rfl, rfl, rfl, rfl, rfl, rfl, rfl, trivial⟩ ⟨by omega, (by rw [take_snoc _ i (by omega), (List.getElem?_eq_some_iff.1 hx).2, List.map_append, List.map_cons, List.map_nil]; exact S29.take 3)⟩
 obtain rfl : i = (idsS (onD (dl rs) known day) o).length := by omega
 refine r_exit rfl ?_
 refine r_seq ?_
 refine r_region ?_
 refine l_m rfl ?_
 refine l_m rfl ?_
 refine l_a rfl ?_
 refine l_a rfl ?_
 refine l_nil ?_
 refine r_ret (rs := [.tmp 8, .tmp 9]) [_, _] Tryz.func29 rfl ⟨rfl, rfl, trivial⟩ ?_
 have hN := S1.pick (L' := [_, _]) [1, 2] (by decide) rfl
 rw [List.take_length] at hN
 exact ⟨_, _, rfl, hN⟩

end Go.Proofs

namespace Go.Proofs
open Go Go.Vk Go.Vk.Flow

open Go.Vk.Deed
def two (y : D) (i : Nat) : List Int := ([y.frm, y.to].take i).filter fun x => decide (0 < x)
theorem two_all (y : D) : y.heirs ++ two y 2 = nm1 y := by
 unfold two nm1
 by_cases h1 : 0 < y.frm <;> by_cases h2 : 0 < y.to <;> simp [h1, h2]
theorem two_len (y : D) (i : Nat) : (two y i).length ≤ 2 := by
 unfold two
 refine Nat.le_trans (List.length_filter_le _ _) ?_
 rw [List.length_take]; simp; omega

set_option maxHeartbeats 4000000 in
theorem c_names (rs : List Rw) (vl : Value) (a : Rw) (hf : ∀ y ∈ dl rs, formed y = true) (ha : formed a.1 = true) (hof : a.1.kind = 6 ∨ a.1.kind = 7 → 1 ≤ a.1.of ∧ ∃ y, rs[(a.1.of - 1).toNat]? = some y) (w : World) (hD : DsR 26 3 w vl rs) (hA : SubR 3 w a) :
  Cl Tryz.prog 109 #[vl, .agg (encD a).toArray] w fun v w' => New w w' (vec EI v (nm (dl rs) a.1)) ∧ Le w w' := by
 have hml := hD.lm
 refine fn_of_run (args := [_, _]) 43 Tryz.func109 rfl rfl rfl fun cs => ?_
 have S := Own.start (X := nob) w
 refine r_seq ?_
 refine r_region ?_
 refine l_box S rfl rfl ?_
 intro b4 w1 S2 hl3
 refine l_a rfl ?_
 refine l_nil ?_
 refine r_seq ?_
 refine r_seq ?_
 refine r_region ?_
 refine l_x rfl (x_fieldAddr rfl Tryz.runUnderlying26 rfl Tryz.sizeOf5 (by decide)) ?_
 refine l_x rfl (x_load rfl (ld_blk (S2.blk 0 rfl) Tryz.isAgg5 rfl)) ?_
 refine l_x rfl (x_eql rfl rfl) ?_
 refine l_m rfl ?_
 refine l_splitd (d := 11) rfl (fun hg11 => ?_) (fun hg11 => ?_)
 ·skip
  obtain ⟨ho1, y, hyo⟩ := hof (by simp_all)
  have hym := List.mem_of_getElem? hyo
  have hol := (List.getElem?_eq_some_iff.1 hyo).1
  have hh9 : y.1.heirs.length ≤ 1000000000 := by have := (formed_lens (hf y.1 (mem_dl hym))).1; omega
  have hno : ofD (dl rs) a.1 = y.1 := by rw [ofD, if_pos (by simp_all), dl_get hyo]; rfl
  refine l_pass rfl ?_
  refine l_pass rfl ?_
  refine l_pass rfl ?_
  refine l_x rfl (x_pick_t rfl rfl) ?_
  refine l_nil ?_
  refine r_true rfl ?_
  refine r_region ?_
  refine l_m rfl ?_
  refine l_x rfl (x_fieldAddr rfl Tryz.runUnderlying26 rfl Tryz.sizeOf3 (by decide)) ?_
  refine l_x rfl (x_load rfl (ld_blk (S2.blk 0 rfl) Tryz.isAgg3 rfl)) ?_
  refine l_x rfl (x_sub rfl rfl (by omega)) ?_
  refine l_index ED rfl (hD.rd.le S2.le) rfl rfl Tryz.runUnderlying23 Tryz.sizeOf26 (by omega) hyo ?_
  intro b5 o6 hat7 row8
  refine l_x rfl (x_load rfl (ld_row Tryz.isAgg26 Tryz.sizeOf26 rfl row8)) ?_
  refine l_stores (vs := [_, _, _, _, _, _, _, _, _, _, _]) S2 0 rfl rfl rfl rfl (ones_cons rfl (ones_cons rfl (ones_cons rfl (ones_cons rfl (ones_cons rfl (ones_cons rfl (ones_cons rfl (ones_cons rfl (ones_cons rfl (ones_cons (Rd.one ((hD.sub _ hym).1.le S2.le)) (ones_cons (Rd.one ((hD.sub _ hym).2.le S2.le)) ones_nil))))))))))) Tryz.sizeOf26 (by first | exact Nat.le_refl _ | simp) (splice_all rfl) ?_
  intro w9 S10 hk11
  refine l_nil ?_
  refine r_seq ?_
  refine r_region ?_
  refine l_x rfl (x_fieldAddr rfl Tryz.runUnderlying26 rfl Tryz.sizeOf24 (by decide)) ?_
  refine l_x rfl (x_load rfl (ld_blk (S10.blk 0 rfl) Tryz.isAgg24 rfl)) ?_
  refine l_call [] [] [_] rfl rfl Tryz.call148 rfl (c_CloneInt _ _ (hh9) _ ((hD.sub _ hym).1.le S10.le)) ?_
  rintro v2412 w12 ⟨hN2412, hl2412⟩
  have S13 := S10.add hl2412 hN2412
  refine l_a rfl ?_
  refine l_nil ?_
  refine r_seq ?_
  refine r_seq ?_
  refine r_region ?_
  refine l_x rfl (x_fieldAddr rfl Tryz.runUnderlying26 rfl Tryz.sizeOf3 (by decide)) ?_
  refine l_x rfl (x_load rfl (ld_blk (S13.blk 0 rfl) Tryz.isAgg3 rfl)) ?_
  refine l_x rfl (x_fieldAddr rfl Tryz.runUnderlying26 rfl Tryz.sizeOf3 (by decide)) ?_
  refine l_x rfl (x_load rfl (ld_blk (S13.blk 0 rfl) Tryz.isAgg3 rfl)) ?_
  refine l_buildSlice EI [y.1.frm, y.1.to] S13 rfl Tryz.runUnderlying24 Tryz.sizeOf3 Tryz.zeroValue3 rfl ⟨rfl, rfl, rfl, rfl, trivial⟩ (Nat.le_of_ble_eq_true rfl) ?_
  intro v17 w14 S15 hl16
  refine l_x rfl (x_len (vec_rd (S15.at 2 rfl)) rfl Tryz.runUnderlying24) ?_
  refine l_m rfl ?_
  refine l_nil ?_
  refine r_block ?_
  refine r_loop (G := Nat × Value) (fun ⟨i, vo⟩ => 2 - i) (fun ⟨i, vo⟩ => [(5, vo), (29, v17), (30, .int .i64 2), (31, .int .i64 i)]) (fun ⟨i, vo⟩ w' => (i ≤ 2) ∧ Own nob w w' [vec EI vo (y.1.heirs ++ two y.1 i), vec EI v17 [y.1.frm, y.1.to]]) (0, v2412) ⟨rfl, rfl, rfl, rfl, trivial⟩ ⟨Nat.zero_le _, (by have hq := S15.pick (L' := [_, _]) [1, 2] (by decide) rfl; rw [show two _ 0 = [] from rfl, List.append_nil]; exact hq)⟩ ?_
  rintro ⟨i, vo⟩ ρ w1 ⟨hi, S1⟩ IH
  refine r_seq ?_
  refine r_region ?_
  refine l_x rfl (x_lss rfl rfl) ?_
  refine l_nil ?_
  refine r_seq ?_
  refine r_ifd rfl (fun hc32 => ?_) (fun hc32 => ?_)
  ·skip
   obtain ⟨x, hx⟩ : ∃ x, [(ofD (dl rs) a.1).frm, (ofD (dl rs) a.1).to][i]? = some x := ⟨_, List.getElem?_eq_getElem (by simp; omega)⟩
   rw [hno] at hx
   refine r_skip ?_
   refine r_seq ?_
   refine r_block ?_
   refine r_seq ?_
   refine r_region ?_
   refine l_index EI rfl (vec_rd (S1.at 1 rfl)) rfl rfl Tryz.runUnderlying24 Tryz.sizeOf3 (by omega) hx ?_
   intro b18 o19 hat20 row21
   refine l_x rfl (x_load rfl (ld_cell Tryz.isAgg3 (row21 0 _ rfl))) ?_
   refine l_a rfl ?_
   refine l_nil ?_
   refine r_seq ?_
   refine r_region ?_
   refine l_m rfl ?_
   refine l_x rfl (x_gtr rfl rfl) ?_
   refine l_nil ?_
   refine r_ifd rfl (fun hc36 => ?_) (fun hc36 => ?_)
   ·skip
    refine r_region ?_
    refine l_m rfl ?_
    refine l_m rfl ?_
    refine l_buildSlice EI [x] S1 rfl Tryz.runUnderlying24 Tryz.sizeOf3 Tryz.zeroValue3 rfl ⟨rfl, rfl, trivial⟩ (Nat.le_of_ble_eq_true rfl) ?_
    intro v25 w22 S23 hl24
    refine l_append EI S23 0 rfl rfl rfl rfl (vec_rd (S23.at 2 rfl)) Tryz.underlying24 info3 rfl rfl rfl (by have h2 := two_len (ofD (dl rs) a.1) i; rw [hno] at h2; unfold maxLen; rw [List.length_append, List.length_singleton]; omega) (by have h2 := two_len (ofD (dl rs) a.1) i; rw [hno] at h2; rw [List.length_append, List.length_singleton]; show _ * 8 ≤ _; omega) ?_
    intro v29 w26 S27 hk28 hv30
    refine l_a rfl ?_
    refine l_nil ?_
    refine r_inBlock ?_
    refine r_region ?_
    refine l_x rfl (x_add rfl rfl (by omega)) ?_
    refine l_m rfl ?_
    refine l_nil ?_
    exact IH (i + 1, v29) _ _ (by dsimp only; omega) ⟨rfl, rfl, rfl, rfl, trivial⟩ ⟨by omega, (by rw [two, filter_step hx, if_pos (by simpa using hc36), ← List.append_assoc]; exact S27.take 2)⟩
   refine r_skip ?_
   refine r_inBlock ?_
   refine r_region ?_
   refine l_x rfl (x_add rfl rfl (by omega)) ?_
   refine l_m rfl ?_
   refine l_nil ?_
   exact IH (i + 1, vo) _ _ (by dsimp only; omega) ⟨rfl, rfl, rfl, rfl, trivial⟩ ⟨by omega, (by rw [two, filter_step hx, if_neg (by simpa using hc36), List.append_nil]; exact S1.take 2)⟩
  obtain rfl : i = 2 := by omega
  refine r_exit rfl ?_
  refine r_seq ?_
  refine r_region ?_
  refine l_m rfl ?_
  refine l_a rfl ?_
  refine l_nil ?_
  refine r_ret (rs := [.tmp 4]) [_] Tryz.func109 rfl ⟨rfl, trivial⟩ ?_
  have hN := S1.new 0 rfl
  rw [two_all, ← hno] at hN
  exact ⟨hN, S1.le⟩
 refine l_x rfl (x_fieldAddr rfl Tryz.runUnderlying26 rfl Tryz.sizeOf5 (by decide)) ?_
 refine l_x rfl (x_load rfl (ld_blk (S2.blk 0 rfl) Tryz.isAgg5 rfl)) ?_
 refine l_x rfl (x_eql rfl rfl) ?_
 refine l_x rfl (x_pick_f rfl rfl) ?_
 refine l_nil ?_
 refine r_ifd rfl (fun hc15 => ?_) (fun hc15 => ?_)
 ·skip
  obtain ⟨ho1, y, hyo⟩ := hof (by simp_all)
  have hym := List.mem_of_getElem? hyo
  have hol := (List.getElem?_eq_some_iff.1 hyo).1
  have hh9 : y.1.heirs.length ≤ 1000000000 := by have := (formed_lens (hf y.1 (mem_dl hym))).1; omega
  have hno : ofD (dl rs) a.1 = y.1 := by rw [ofD, if_pos (by simp_all), dl_get hyo]; rfl
  refine r_region ?_
  refine l_m rfl ?_
  refine l_x rfl (x_fieldAddr rfl Tryz.runUnderlying26 rfl Tryz.sizeOf3 (by decide)) ?_
  refine l_x rfl (x_load rfl (ld_blk (S2.blk 0 rfl) Tryz.isAgg3 rfl)) ?_
  refine l_x rfl (x_sub rfl rfl (by omega)) ?_
  refine l_index ED rfl (hD.rd.le S2.le) rfl rfl Tryz.runUnderlying23 Tryz.sizeOf26 (by omega) hyo ?_
  intro b31 o32 hat33 row34
  refine l_x rfl (x_load rfl (ld_row Tryz.isAgg26 Tryz.sizeOf26 rfl row34)) ?_
  refine l_stores (vs := [_, _, _, _, _, _, _, _, _, _, _]) S2 0 rfl rfl rfl rfl (ones_cons rfl (ones_cons rfl (ones_cons rfl (ones_cons rfl (ones_cons rfl (ones_cons rfl (ones_cons rfl (ones_cons rfl (ones_cons rfl (ones_cons (Rd.one ((hD.sub _ hym).1.le S2.le)) (ones_cons (Rd.one ((hD.sub _ hym).2.le S2.le)) ones_nil))))))))))) Tryz.sizeOf26 (by first | exact Nat.le_refl _ | simp) (splice_all rfl) ?_
  intro w35 S36 hk37
  refine l_nil ?_
  refine r_seq ?_
  refine r_region ?_
  refine l_x rfl (x_fieldAddr rfl Tryz.runUnderlying26 rfl Tryz.sizeOf24 (by decide)) ?_
  refine l_x rfl (x_load rfl (ld_blk (S36.blk 0 rfl) Tryz.isAgg24 rfl)) ?_
  refine l_call [] [] [_] rfl rfl Tryz.call148 rfl (c_CloneInt _ _ (hh9) _ ((hD.sub _ hym).1.le S36.le)) ?_
  rintro v2438 w38 ⟨hN2438, hl2438⟩
  have S39 := S36.add hl2438 hN2438
  refine l_a rfl ?_
  refine l_nil ?_
  refine r_seq ?_
  refine r_seq ?_
  refine r_region ?_
  refine l_x rfl (x_fieldAddr rfl Tryz.runUnderlying26 rfl Tryz.sizeOf3 (by decide)) ?_
  refine l_x rfl (x_load rfl (ld_blk (S39.blk 0 rfl) Tryz.isAgg3 rfl)) ?_
  refine l_x rfl (x_fieldAddr rfl Tryz.runUnderlying26 rfl Tryz.sizeOf3 (by decide)) ?_
  refine l_x rfl (x_load rfl (ld_blk (S39.blk 0 rfl) Tryz.isAgg3 rfl)) ?_
  refine l_buildSlice EI [y.1.frm, y.1.to] S39 rfl Tryz.runUnderlying24 Tryz.sizeOf3 Tryz.zeroValue3 rfl ⟨rfl, rfl, rfl, rfl, trivial⟩ (Nat.le_of_ble_eq_true rfl) ?_
  intro v43 w40 S41 hl42
  refine l_x rfl (x_len (vec_rd (S41.at 2 rfl)) rfl Tryz.runUnderlying24) ?_
  refine l_m rfl ?_
  refine l_nil ?_
  refine r_block ?_
  refine r_loop (G := Nat × Value) (fun ⟨i, vo⟩ => 2 - i) (fun ⟨i, vo⟩ => [(5, vo), (29, v43), (30, .int .i64 2), (31, .int .i64 i)]) (fun ⟨i, vo⟩ w' => (i ≤ 2) ∧ Own nob w w' [vec EI vo (y.1.heirs ++ two y.1 i), vec EI v43 [y.1.frm, y.1.to]]) (0, v2438) ⟨rfl, rfl, rfl, rfl, trivial⟩ ⟨Nat.zero_le _, (by have hq := S41.pick (L' := [_, _]) [1, 2] (by decide) rfl; rw [show two _ 0 = [] from rfl, List.append_nil]; exact hq)⟩ ?_
  rintro ⟨i, vo⟩ ρ w1 ⟨hi, S1⟩ IH
  refine r_seq ?_
  refine r_region ?_
  refine l_x rfl (x_lss rfl rfl) ?_
  refine l_nil ?_
  refine r_seq ?_
  refine r_ifd rfl (fun hc32 => ?_) (fun hc32 => ?_)
  ·skip
   obtain ⟨x, hx⟩ : ∃ x, [(ofD (dl rs) a.1).frm, (ofD (dl rs) a.1).to][i]? = some x := ⟨_, List.getElem?_eq_getElem (by simp; omega)⟩
   rw [hno] at hx
   refine r_skip ?_
   refine r_seq ?_
   refine r_block ?_
   refine r_seq ?_
   refine r_region ?_
   refine l_index EI rfl (vec_rd (S1.at 1 rfl)) rfl rfl Tryz.runUnderlying24 Tryz.sizeOf3 (by omega) hx ?_
   intro b44 o45 hat46 row47
   refine l_x rfl (x_load rfl (ld_cell Tryz.isAgg3 (row47 0 _ rfl))) ?_
   refine l_a rfl ?_
   refine l_nil ?_
   refine r_seq ?_
   refine r_region ?_
   refine l_m rfl ?_
   refine l_x rfl (x_gtr rfl rfl) ?_
   refine l_nil ?_
   refine r_ifd rfl (fun hc36 => ?_) (fun hc36 => ?_)
   ·skip
    refine r_region ?_
    refine l_m rfl ?_
    refine l_m rfl ?_
    refine l_buildSlice EI [x] S1 rfl Tryz.runUnderlying24 Tryz.sizeOf3 Tryz.zeroValue3 rfl ⟨rfl, rfl, trivial⟩ (Nat.le_of_ble_eq_true rfl) ?_
    intro v51 w48 S49 hl50
    refine l_append EI S49 0 rfl rfl rfl rfl (vec_rd (S49.at 2 rfl)) Tryz.underlying24 info3 rfl rfl rfl (by have h2 := two_len (ofD (dl rs) a.1) i; rw [hno] at h2; unfold maxLen; rw [List.length_append, List.length_singleton]; omega) (by have h2 := two_len (ofD (dl rs) a.1) i; rw [hno] at h2; rw [List.length_append, List.length_singleton]; show _ * 8 ≤ _; omega) ?_
    intro v55 w52 S53 hk54 hv56
    refine l_a rfl ?_
    refine l_nil ?_
    refine r_inBlock ?_
    refine r_region ?_
    refine l_x rfl (x_add rfl rfl (by omega)) ?_
    refine l_m rfl ?_
    refine l_nil ?_
    exact IH (i + 1, v55) _ _ (by dsimp only; omega) ⟨rfl, rfl, rfl, rfl, trivial⟩ ⟨by omega, (by rw [two, filter_step hx, if_pos (by simpa using hc36), ← List.append_assoc]; exact S53.take 2)⟩
   refine r_skip ?_
   refine r_inBlock ?_
   refine r_region ?_
   refine l_x rfl (x_add rfl rfl (by omega)) ?_
   refine l_m rfl ?_
   refine l_nil ?_
   exact IH (i + 1, vo) _ _ (by dsimp only; omega) ⟨rfl, rfl, rfl, rfl, trivial⟩ ⟨by omega, (by rw [two, filter_step hx, if_neg (by simpa using hc36), List.append_nil]; exact S1.take 2)⟩
  obtain rfl : i = 2 := by omega
  refine r_exit rfl ?_
  refine r_seq ?_
  refine r_region ?_
  refine l_m rfl ?_
  refine l_a rfl ?_
  refine l_nil ?_
  refine r_ret (rs := [.tmp 4]) [_] Tryz.func109 rfl ⟨rfl, trivial⟩ ?_
  have hN := S1.new 0 rfl
  rw [two_all, ← hno] at hN
  exact ⟨hN, S1.le⟩
 have hh9 : a.1.heirs.length ≤ 1000000000 := by have := (formed_lens ha).1; omega
 have hno : ofD (dl rs) a.1 = a.1 := by rw [ofD, if_neg (by simp_all)]
 refine r_skip ?_
 refine r_seq ?_
 refine r_region ?_
 refine l_x rfl (x_fieldAddr rfl Tryz.runUnderlying26 rfl Tryz.sizeOf24 (by decide)) ?_
 refine l_x rfl (x_load rfl (ld_blk (S2.blk 0 rfl) Tryz.isAgg24 rfl)) ?_
 refine l_call [] [] [_] rfl rfl Tryz.call148 rfl (c_CloneInt _ _ (hh9) _ (hA.1.le S2.le)) ?_
 rintro v2457 w57 ⟨hN2457, hl2457⟩
 have S58 := S2.add hl2457 hN2457
 refine l_a rfl ?_
 refine l_nil ?_
 refine r_seq ?_
 refine r_seq ?_
 refine r_region ?_
 refine l_x rfl (x_fieldAddr rfl Tryz.runUnderlying26 rfl Tryz.sizeOf3 (by decide)) ?_
 refine l_x rfl (x_load rfl (ld_blk (S58.blk 0 rfl) Tryz.isAgg3 rfl)) ?_
 refine l_x rfl (x_fieldAddr rfl Tryz.runUnderlying26 rfl Tryz.sizeOf3 (by decide)) ?_
 refine l_x rfl (x_load rfl (ld_blk (S58.blk 0 rfl) Tryz.isAgg3 rfl)) ?_
 refine l_buildSlice EI [a.1.frm, a.1.to] S58 rfl Tryz.runUnderlying24 Tryz.sizeOf3 Tryz.zeroValue3 rfl ⟨rfl, rfl, rfl, rfl, trivial⟩ (Nat.le_of_ble_eq_true rfl) ?_
 intro v62 w59 S60 hl61
 refine l_x rfl (x_len (vec_rd (S60.at 2 rfl)) rfl Tryz.runUnderlying24) ?_
 refine l_m rfl ?_
 refine l_nil ?_
 refine r_block ?_
 refine r_loop (G := Nat × Value) (fun ⟨i, vo⟩ => 2 - i) (fun ⟨i, vo⟩ => [(5, vo), (29, v62), (30, .int .i64 2), (31, .int .i64 i)]) (fun ⟨i, vo⟩ w' => (i ≤ 2) ∧ Own nob w w' [vec EI vo (a.1.heirs ++ two a.1 i), vec EI v62 [a.1.frm, a.1.to]]) (0, v2457) ⟨rfl, rfl, rfl, rfl, trivial⟩ ⟨Nat.zero_le _, (by have hq := S60.pick (L' := [_, _]) [1, 2] (by decide) rfl; rw [show two _ 0 = [] from rfl, List.append_nil]; exact hq)⟩ ?_
 rintro ⟨i, vo⟩ ρ w1 ⟨hi, S1⟩ IH
 refine r_seq ?_
 refine r_region ?_
 refine l_x rfl (x_lss rfl rfl) ?_
 refine l_nil ?_
 refine r_seq ?_
 refine r_ifd rfl (fun hc32 => ?_) (fun hc32 => ?_)
 ·skip
  obtain ⟨x, hx⟩ : ∃ x, [(ofD (dl rs) a.1).frm, (ofD (dl rs) a.1).to][i]? = some x := ⟨_, List.getElem?_eq_getElem (by simp; omega)⟩
  rw [hno] at hx
  refine r_skip ?_
  refine r_seq ?_
  refine r_block ?_
  refine r_seq ?_
  refine r_region ?_
  refine l_index EI rfl (vec_rd (S1.at 1 rfl)) rfl rfl Tryz.runUnderlying24 Tryz.sizeOf3 (by omega) hx ?_
  intro b63 o64 hat65 row66
  refine l_x rfl (x_load rfl (ld_cell Tryz.isAgg3 (row66 0 _ rfl))) ?_
  refine l_a rfl ?_
  refine l_nil ?_
  refine r_seq ?_
  refine r_region ?_
  refine l_m rfl ?_
  refine l_x rfl (x_gtr rfl rfl) ?_
  refine l_nil ?_
  refine r_ifd rfl (fun hc36 => ?_) (fun hc36 => ?_)
  ·skip
   refine r_region ?_
   refine l_m rfl ?_
   refine l_m rfl ?_
   refine l_buildSlice EI [x] S1 rfl Tryz.runUnderlying24 Tryz.sizeOf3 Tryz.zeroValue3 rfl ⟨rfl, rfl, trivial⟩ (Nat.le_of_ble_eq_true rfl) ?_
   intro v70 w67 S68 hl69
   refine l_append EI S68 0 rfl rfl rfl rfl (vec_rd (S68.at 2 rfl)) Tryz.underlying24 info3 rfl rfl rfl (by have h2 := two_len (ofD (dl rs) a.1) i; rw [hno] at h2; unfold maxLen; rw [List.length_append, List.length_singleton]; omega) (by have h2 := two_len (ofD (dl rs) a.1) i; rw [hno] at h2; rw [List.length_append, List.length_singleton]; show _ * 8 ≤ _; omega) ?_
   intro v74 w71 S72 hk73 hv75
   refine l_a rfl ?_
   refine l_nil ?_
   refine r_inBlock ?_
   refine r_region ?_
   refine l_x rfl (x_add rfl rfl (by omega)) ?_
   refine l_m rfl ?_
   refine l_nil ?_
   exact IH (i + 1, v74) _ _ (by dsimp only; omega) ⟨rfl, rfl, rfl, rfl, trivial⟩ ⟨by omega, (by rw [two, filter_step hx, if_pos (by simpa using hc36), ← List.append_assoc]; exact S72.take 2)⟩
  refine r_skip ?_
  refine r_inBlock ?_
  refine r_region ?_
  refine l_x rfl (x_add rfl rfl (by omega)) ?_
  refine l_m rfl ?_
  refine l_nil ?_
  exact IH (i + 1, vo) _ _ (by dsimp only; omega) ⟨rfl, rfl, rfl, rfl, trivial⟩ ⟨by omega, (by rw [two, filter_step hx, if_neg (by simpa using hc36), List.append_nil]; exact S1.take 2)⟩
 obtain rfl : i = 2 := by omega
 refine r_exit rfl ?_
 refine r_seq ?_
 refine r_region ?_
 refine l_m rfl ?_
 refine l_a rfl ?_
 refine l_nil ?_
 refine r_ret (rs := [.tmp 4]) [_] Tryz.func109 rfl ⟨rfl, trivial⟩ ?_
 have hN := S1.new 0 rfl
 rw [two_all, ← hno] at hN
 exact ⟨hN, S1.le⟩

end Go.Proofs

namespace Go.Proofs
open Go Go.Vk Go.Vk.Flow

open Go.Vk.Deed

end Go.Proofs

namespace Go.Proofs
open Go Go.Vk Go.Vk.Flow

open Go.Vk.Deed
structure TkR (rs rq : List Rw) (vl vq : Value) (m ba bm bl bk : Nat) (w : World) : Prop where
 xa : DsR 26 3 w vq rq
 xl : DsR 26 3 w vl rs
 xba : Blk w ba [vq] 23
 xbm : Blk w bm [.map (some m)] 121
 xbl : Blk w bl [vl] 23
 xbk : Blk w bk [.func (.func 107) #[] #[.pointer (some ⟨ba, 0, none⟩), .pointer (some ⟨bm, 0, none⟩), .pointer (some ⟨bl, 0, none⟩), .pointer (some ⟨bk, 0, none⟩)]] 122
abbrev TkP (rs rq : List Rw) (vl vq : Value) (m ba bm bl bk : Nat) (N : Nat) : Prop := ∀ (T : List Nat) (i : Nat) (w : World), rq.length - T.length < N → i < rq.length → T.Nodup → (∀ k ∈ T, k < rq.length) → (∀ wz, Keep (· = m) w wz → TkR rs rq vl vq m ba bm bl bk wz) → Own (· = m) w w [mapr kInt Value.bool m (setM ((T).map (idAt (dl rq))))] →
 Cl Tryz.prog 107 #[.int .i64 i, .pointer (some ⟨ba, 0, none⟩), .pointer (some ⟨bm, 0, none⟩), .pointer (some ⟨bl, 0, none⟩), .pointer (some ⟨bk, 0, none⟩)] w fun _ w' => ∃ T', Took (restsB (dl rs) (dl rq)) rq.length T i T' ∧ Own (· = m) w w' [mapr kInt Value.bool m (setM ((T').map (idAt (dl rq))))]
theorem taken_in {c : List D} {T : List Nat} {i : Nat} {x : D} (hn : (c.map (·.id)).Nodup) (hT : ∀ k ∈ T, k < c.length) (hx : c[i]? = some x) : (T.map (idAt c)).contains x.id = true ↔ i ∈ T := by
 rw [List.contains_iff_mem, List.mem_map]
 constructor
 ·rintro ⟨k, hk, e⟩
  have := idAt_inj hn (hT k hk) (List.getElem?_eq_some_iff.1 hx).1 (e.trans (idAt_get hx).symm)
  exact this ▸ hk
 intro h; exact ⟨i, h, idAt_get hx⟩
theorem setM_take {c : List D} {T : List Nat} {i : Nat} {x : D} (hx : c[i]? = some x) : mset (setM (T.map (idAt c))) x.id true = setM ((i :: T).map (idAt c)) := by
 rw [setM_cons, List.map_cons, idAt_get hx]
def plgB (x y : D) : Bool := decide (x.kind = 6 ∨ x.kind = 7) && decide (y.id = x.of)
theorem rests_eq {l c : List D} {i k : Nat} {x y : D} (hx : c[i]? = some x) (hy : c[k]? = some y) : restsB l c i k = (plgB x y || (decide (k < i) && meetB (nm l x) (nm l y))) := by
 unfold restsB; rw [hx, hy]; rfl
theorem nm_len {l : List D} {x : D} (hf : ∀ y ∈ l, formed y = true) (hx : formed x = true) : (nm l x).length ≤ 12 := by
 have key : ∀ y : D, formed y = true → (nm1 y).length ≤ 12 := fun y hy => by
  have h1 := (formed_lens hy).1
  unfold nm1
  rw [List.length_append, List.length_append]
  split <;> split <;> simp <;> omega
 unfold nm ofD
 split
 ·cases h : l[(x.of - 1).toNat]? with
  | none => exact key x hx
  | some y => exact key y (hf y (List.mem_of_getElem? h))
 exact key x hx

set_option maxHeartbeats 4000000 in
theorem c_take1 (rs rq : List Rw) (vl vq : Value) (m ba bm bl bk : Nat) (known : Int) (hR : rightD (dl rs) = true) (hq : dl rq = counting (dl rs) known) (hmq : ∀ a ∈ rq, a ∈ rs) (N : Nat) (HI : TkP rs rq vl vq m ba bm bl bk N) (T : List Nat) (i : Nat) (hN : rq.length - T.length < N + 1) (hi : i < rq.length) (hn : T.Nodup) (hl : ∀ k ∈ T, k < rq.length) (w : World) (hT : ∀ wz, Keep (· = m) w wz → TkR rs rq vl vq m ba bm bl bk wz) (S : Own (· = m) w w [mapr kInt Value.bool m (setM ((T).map (idAt (dl rq))))]) :
  Cl Tryz.prog 107 #[.int .i64 i, .pointer (some ⟨ba, 0, none⟩), .pointer (some ⟨bm, 0, none⟩), .pointer (some ⟨bl, 0, none⟩), .pointer (some ⟨bk, 0, none⟩)] w fun _ w' => ∃ T', Took (restsB (dl rs) (dl rq)) rq.length T i T' ∧ Own (· = m) w w' [mapr kInt Value.bool m (setM ((T').map (idAt (dl rq))))] := by
 have hnd := (right_play (known := known) hR).nd
 rw [← hq] at hnd
 have hTl : ∀ q ∈ T, q < (dl rq).length := by rw [dl_len]; exact hl
 have hrl : rq.length ≤ 400 := by rw [← dl_len, hq]; exact count_len hR
 obtain ⟨a, ha⟩ : ∃ a, rq[i]? = some a := ⟨_, List.getElem?_eq_getElem hi⟩
 have ham := List.mem_of_getElem? ha
 have hnla := nm_len (fun y hy => right_formed hR hy) (right_formed hR (mem_dl (hmq _ ham)))
 refine fn_of_run (args := [_, _, _, _, _]) 62 Tryz.func107 rfl rfl rfl fun cs => ?_
 refine r_seq ?_
 refine r_region ?_
 refine l_x rfl (x_load rfl (ld_blk (hT _ S.keep).xba Tryz.isAgg23 rfl)) ?_
 refine l_m rfl ?_
 refine l_index ED rfl (hT _ S.keep).xa.rd rfl rfl Tryz.runUnderlying23 Tryz.sizeOf26 (by omega) ha ?_
 intro b1 o2 hat3 row4
 refine l_x rfl (x_load rfl (ld_row Tryz.isAgg26 Tryz.sizeOf26 rfl row4)) ?_
 refine l_alloc S rfl Tryz.zeroValue26 rfl ?_
 intro b8 w5 S6 hl7
 refine l_stores (vs := [_, _, _, _, _, _, _, _, _, _, _]) S6 1 rfl rfl rfl rfl (ones_cons rfl (ones_cons rfl (ones_cons rfl (ones_cons rfl (ones_cons rfl (ones_cons rfl (ones_cons rfl (ones_cons rfl (ones_cons rfl (ones_cons (Rd.one ((hT _ S6.keep).xa.sub _ ham).1) (ones_cons (Rd.one ((hT _ S6.keep).xa.sub _ ham).2) ones_nil))))))))))) Tryz.sizeOf26 (by first | exact Nat.le_refl _ | simp) (splice_all rfl) ?_
 intro w9 S10 hk11
 refine l_nil ?_
 refine r_seq ?_
 refine r_seq ?_
 refine r_region ?_
 refine l_x rfl (x_load rfl (ld_blk (hT _ S10.keep).xbm Tryz.isAgg121 rfl)) ?_
 refine l_x rfl (x_fieldAddr rfl Tryz.runUnderlying26 rfl Tryz.sizeOf3 (by decide)) ?_
 refine l_x rfl (x_load rfl (ld_blk (S10.blk 1 rfl) Tryz.isAgg3 rfl)) ?_
 refine l_x rfl (x_lookup (S10.at 0 rfl) keyI Tryz.runUnderlying121 rfl rfl Tryz.zeroValue4 setM_get) ?_
 refine l_nil ?_
 refine r_if rfl (fun hc17 => ?_) (fun hc17 => ?_)
 ·skip
  refine r_ret (rs := []) [] Tryz.func107 rfl trivial ?_
  exact ⟨T, .here ((taken_in hnd hTl (dl_get ha)).1 hc17) hn hl, S10.take 1⟩
 have hiT : i ∉ T := fun g => by rw [(taken_in hnd hTl (dl_get ha)).2 g] at hc17; cases hc17
 refine r_skip ?_
 refine r_seq ?_
 refine r_region ?_
 refine l_x rfl (x_load rfl (ld_blk (hT _ S10.keep).xbm Tryz.isAgg121 rfl)) ?_
 refine l_x rfl (x_fieldAddr rfl Tryz.runUnderlying26 rfl Tryz.sizeOf3 (by decide)) ?_
 refine l_x rfl (x_load rfl (ld_blk (S10.blk 1 rfl) Tryz.isAgg3 rfl)) ?_
 refine l_mapUpdate S10 0 rfl rfl keyI Tryz.runUnderlying121 rfl rfl rfl ?_
 intro w12 S13 hk14
 refine l_nil ?_
 refine r_seq ?_
 refine r_region ?_
 refine l_x rfl (x_load rfl (ld_blk (hT _ S13.keep).xba Tryz.isAgg23 rfl)) ?_
 refine l_x rfl (x_len (hT _ S13.keep).xa.rd rfl Tryz.runUnderlying23) ?_
 refine l_m rfl ?_
 refine l_nil ?_
 refine r_block ?_
 refine r_loop (G := Nat × List Nat) (fun ⟨k, T1⟩ => rq.length - k) (fun ⟨k, T1⟩ => [(0, .int .i64 i), (1, .pointer (some ⟨ba, 0, none⟩)), (2, .pointer (some ⟨bm, 0, none⟩)), (3, .pointer (some ⟨bl, 0, none⟩)), (4, .pointer (some ⟨bk, 0, none⟩)), (6, .pointer (some ⟨b8, 0, none⟩)), (21, vq), (22, .int .i64 rq.length), (23, .int .i64 k)]) (fun ⟨k, T1⟩ w' => (k ≤ rq.length) ∧ (Tak (restsB (dl rs) (dl rq)) rq.length T i T1 k) ∧ Own (· = m) w w' [mapr kInt Value.bool m (setM ((T1).map (idAt (dl rq)))), blk b8 (encD a) 26]) (0, i :: T) ⟨rfl, rfl, rfl, rfl, rfl, rfl, rfl, rfl, rfl, trivial⟩ ⟨Nat.zero_le _, .start hiT hi hn hl, (by rw [← setM_take (dl_get ha)]; exact S13)⟩ ?_
 rintro ⟨k, T1⟩ ρ w1 ⟨hkk, hTk, S1⟩ IH
 refine r_seq ?_
 refine r_region ?_
 refine l_x rfl (x_lss rfl rfl) ?_
 refine l_nil ?_
 refine r_seq ?_
 refine r_ifd rfl (fun hc24 => ?_) (fun hc24 => ?_)
 ·skip
  have hkl : k < rq.length := by omega
  obtain ⟨b, hb⟩ : ∃ b, rq[k]? = some b := ⟨_, List.getElem?_eq_getElem hkl⟩
  have hbm := List.mem_of_getElem? hb
  have hnlb := nm_len (fun y hy => right_formed hR hy) (right_formed hR (mem_dl (hmq _ hbm)))
  have hre := rests_eq (l := dl rs) (dl_get ha) (dl_get hb)
  refine r_skip ?_
  refine r_seq ?_
  refine r_block ?_
  refine r_seq ?_
  refine r_region ?_
  refine l_m rfl ?_
  refine l_index ED rfl (hT _ S1.keep).xa.rd rfl rfl Tryz.runUnderlying23 Tryz.sizeOf26 (by omega) hb ?_
  intro b15 o16 hat17 row18
  refine l_x rfl (x_load rfl (ld_row Tryz.isAgg26 Tryz.sizeOf26 rfl row18)) ?_
  refine l_alloc S1 rfl Tryz.zeroValue26 rfl ?_
  intro b22 w19 S20 hl21
  refine l_a rfl ?_
  refine l_stores (vs := [_, _, _, _, _, _, _, _, _, _, _]) S20 2 rfl rfl rfl rfl (ones_cons rfl (ones_cons rfl (ones_cons rfl (ones_cons rfl (ones_cons rfl (ones_cons rfl (ones_cons rfl (ones_cons rfl (ones_cons rfl (ones_cons (Rd.one ((hT _ S20.keep).xa.sub _ hbm).1) (ones_cons (Rd.one ((hT _ S20.keep).xa.sub _ hbm).2) ones_nil))))))))))) Tryz.sizeOf26 (by first | exact Nat.le_refl _ | simp) (splice_all rfl) ?_
  intro w23 S24 hk25
  refine l_nil ?_
  refine r_seq ?_
  refine r_cutS S24 [(0, .int .i64 i), (1, .pointer (some ⟨ba, 0, none⟩)), (2, .pointer (some ⟨bm, 0, none⟩)), (3, .pointer (some ⟨bl, 0, none⟩)), (4, .pointer (some ⟨bk, 0, none⟩)), (6, .pointer (some ⟨b8, 0, none⟩)), (7, .int .i64 k), (8, .pointer (some ⟨b22, 0, none⟩)), (21, vq), (22, .int .i64 rq.length), (23, .int .i64 k), (9, .bool (plgB a.1 b.1))] (True) (fun ρ w26 hp28 S27 => ?_) (fun HK29 => ?_)
  ·skip
   refine r_seq ?_
   refine r_drawE 15 nob Tryz.mixed (by kernel_rfl) ?_
   intro w30 hl31
   have S32 := S27.step hl31
   refine e_exact 0 _ (by kernel_rfl) rfl rfl (by kernel_rfl) rfl (ex_x rfl (fun w1 h1 => x_mv rfl)) ?_
   refine e_exact 1 _ (by kernel_rfl) rfl rfl (by kernel_rfl) rfl (ex_x rfl (fun w1 h1 => x_mv rfl)) ?_
   refine e_split (d := 44) rfl (fun hg44 => ?_) (fun hg44 => ?_)
   ·skip
    refine e_exact 2 _ (by kernel_rfl) rfl rfl (by kernel_rfl) rfl (ex_pass rfl) ?_
    refine e_exact 3 _ (by kernel_rfl) rfl rfl (by kernel_rfl) rfl (ex_pass rfl) ?_
    refine e_exact 4 _ (by kernel_rfl) rfl rfl (by kernel_rfl) rfl (ex_pass rfl) ?_
    refine e_exact 5 _ (by kernel_rfl) rfl rfl (by kernel_rfl) rfl (ex_pass rfl) ?_
    refine e_exact 6 _ (by kernel_rfl) rfl rfl (by kernel_rfl) rfl (ex_pass rfl) ?_
    refine e_exact 7 _ (by kernel_rfl) rfl rfl (by kernel_rfl) rfl (ex_pass rfl) ?_
    refine e_exact 8 _ (by kernel_rfl) rfl rfl (by kernel_rfl) rfl (ex_pass rfl) ?_
    refine e_exact 9 _ (by kernel_rfl) rfl rfl (by kernel_rfl) rfl (ex_pass rfl) ?_
    refine e_exact 10 _ (by kernel_rfl) rfl rfl (by kernel_rfl) rfl (ex_pass rfl) ?_
    refine e_exact 11 _ (by kernel_rfl) rfl rfl (by kernel_rfl) rfl (ex_pass rfl) ?_
    refine e_exact 12 _ (by kernel_rfl) rfl rfl (by kernel_rfl) rfl (ex_pass rfl) ?_
    refine e_exact 13 _ (by kernel_rfl) rfl rfl (by kernel_rfl) rfl (ex_pass rfl) ?_
    refine e_exact 14 _ (by kernel_rfl) rfl rfl (by kernel_rfl) rfl (ex_x rfl (fun w1 h1 => x_pick_t rfl rfl)) ?_
    refine e_done (by kernel_rfl) ?_
    refine l_nil ?_
    refine r_true rfl ?_
    refine r_region ?_
    refine l_x rfl (x_load rfl (ld_blk (hT _ S32.keep).xbk Tryz.isAgg122 rfl)) ?_
    refine l_m rfl ?_
    refine l_call [] [_, _, _, _] [_, _, _, _, _] rfl rfl Tryz.call107 rfl (HI T1 k _ (by have := hTk.less hn hiT; omega) hkl hTk.nd hTk.lt (fun wz hk => hT wz (S32.keep.trans hk)) (S32.lend 0 rfl)) ?_
    rintro _ w33 ⟨T2, hK, hb35⟩
    have S34 := S32.back 0 rfl hb35
    refine l_nil ?_
    refine r_inBlock ?_
    refine r_region ?_
    refine l_x rfl (x_add rfl rfl (by omega)) ?_
    refine l_m rfl ?_
    refine l_nil ?_
    have hrk : (restsB (dl rs) (dl rq)) i k = true := by rw [hre]; first | (simp_all; done) | (simp_all; intros; omega)
    exact IH (k + 1, T2) _ _ (by dsimp only; omega) ⟨rfl, rfl, rfl, rfl, rfl, rfl, rfl, rfl, rfl, trivial⟩ ⟨by omega, hTk.take hrk hK, (S34.take 2)⟩
   refine e_exact 2 _ (by kernel_rfl) rfl rfl (by kernel_rfl) rfl (ex_x rfl (fun w1 h1 => x_mv rfl)) ?_
   refine e_exact 3 _ (by kernel_rfl) rfl rfl (by kernel_rfl) rfl (ex_x rfl (fun w1 h1 => x_mv rfl)) ?_
   refine e_exact 4 _ (by kernel_rfl) rfl rfl (by kernel_rfl) rfl (ex_x rfl (fun w1 h1 => x_lss rfl rfl)) ?_
   refine e_exact 5 _ (by kernel_rfl) rfl rfl (by kernel_rfl) rfl (ex_x rfl (fun w1 h1 => x_mv rfl)) ?_
   refine e_splitd (d := 48) rfl (fun hg48 => ?_) (fun hg48 => ?_)
   ·skip
    refine e_exact 6 _ (by kernel_rfl) rfl rfl (by kernel_rfl) rfl (ex_x rfl (fun w1 h1 => x_load rfl (ld_blk (hT _ (S32.step h1).keep).xbl Tryz.isAgg23 rfl))) ?_
    refine e_exact 7 _ (by kernel_rfl) rfl rfl (by kernel_rfl) rfl (ex_x rfl (fun w1 h1 => x_load rfl (ld_blks ((S32.step h1).blk 1 rfl) Tryz.isAgg26 Tryz.sizeOf26 rfl rfl))) ?_
    refine e_exact 9 _ (by kernel_rfl) rfl rfl (by kernel_rfl) rfl (ex_x rfl (fun w1 h1 => x_load rfl (ld_blk (hT _ (S32.step h1).keep).xbl Tryz.isAgg23 rfl))) ?_
    refine e_exact 10 _ (by kernel_rfl) rfl rfl (by kernel_rfl) rfl (ex_x rfl (fun w1 h1 => x_load rfl (ld_blks ((S32.step h1).blk 2 rfl) Tryz.isAgg26 Tryz.sizeOf26 rfl rfl))) ?_
    refine e_next [8] (by kernel_rfl) (by kernel_rfl) ⟨⟨_, _, rfl, rfl, ?_⟩, trivial⟩
    refine s_callf [] [] [_, _] rfl rfl Tryz.call109 rfl ((c_names rs vl a (fun y hy => right_formed hR hy) (right_formed hR (mem_dl (hmq _ ham))) (fun k => by have h9 := right_of hR (mem_dl (hmq _ ham)) k; rw [dl_len] at h9; exact ⟨h9.1, _, List.getElem?_eq_getElem (by omega)⟩) _ (hT _ S32.keep).xl ((hT _ S32.keep).xa.sub _ ham)).mono ?_)
    rintro v5136 w36 ⟨hN5136, hl5136⟩
    have S37 := S32.add hl5136 hN5136
    refine ⟨.of_le hl5136, ?_⟩
    refine e_next [11] (by kernel_rfl) (by kernel_rfl) ⟨⟨_, _, rfl, rfl, ?_⟩, trivial⟩
    refine s_callf [] [] [_, _] rfl rfl Tryz.call109 rfl ((c_names rs vl b (fun y hy => right_formed hR hy) (right_formed hR (mem_dl (hmq _ hbm))) (fun k => by have h9 := right_of hR (mem_dl (hmq _ hbm)) k; rw [dl_len] at h9; exact ⟨h9.1, _, List.getElem?_eq_getElem (by omega)⟩) _ (hT _ S37.keep).xl ((hT _ S37.keep).xa.sub _ hbm)).mono ?_)
    rintro v5438 w38 ⟨hN5438, hl5438⟩
    have S39 := S37.add hl5438 hN5438
    refine ⟨.of_le hl5438, ?_⟩
    refine e_next [12] (by kernel_rfl) (by kernel_rfl) ⟨⟨_, _, rfl, rfl, ?_⟩, trivial⟩
    refine s_callf [] [] [_, _] rfl rfl Tryz.call108 rfl ((c_meet _ _ _ _ (by omega) (by omega) _ (vec_rd (S39.at 3 rfl)) (vec_rd (S39.at 4 rfl))).mono ?_)
    rintro _ w40 ⟨rfl, hl42⟩
    have S41 := S39.step hl42
    refine ⟨.of_le hl42, ?_⟩
    refine e_exact 13 _ (by kernel_rfl) rfl rfl (by kernel_rfl) rfl (ex_x rfl (fun w1 h1 => x_pick_t rfl rfl)) ?_
    refine e_exact 14 _ (by kernel_rfl) rfl rfl (by kernel_rfl) rfl (ex_x rfl (fun w1 h1 => x_pick_f rfl rfl)) ?_
    refine e_done (by kernel_rfl) ?_
    refine l_nil ?_
    refine r_if rfl (fun hc57 => ?_) (fun hc57 => ?_)
    ·skip
     refine r_region ?_
     refine l_x rfl (x_load rfl (ld_blk (hT _ S41.keep).xbk Tryz.isAgg122 rfl)) ?_
     refine l_m rfl ?_
     refine l_call [] [_, _, _, _] [_, _, _, _, _] rfl rfl Tryz.call107 rfl (HI T1 k _ (by have := hTk.less hn hiT; omega) hkl hTk.nd hTk.lt (fun wz hk => hT wz (S41.keep.trans hk)) (S41.lend 0 rfl)) ?_
     rintro _ w43 ⟨T2, hK, hb45⟩
     have S44 := S41.back 0 rfl hb45
     refine l_nil ?_
     refine r_inBlock ?_
     refine r_region ?_
     refine l_x rfl (x_add rfl rfl (by omega)) ?_
     refine l_m rfl ?_
     refine l_nil ?_
     have hrk : (restsB (dl rs) (dl rq)) i k = true := by rw [hre]; first | (simp_all; done) | (simp_all; intros; omega)
     exact IH (k + 1, T2) _ _ (by dsimp only; omega) ⟨rfl, rfl, rfl, rfl, rfl, rfl, rfl, rfl, rfl, trivial⟩ ⟨by omega, hTk.take hrk hK, (S44.take 2)⟩
    refine r_skip ?_
    refine r_inBlock ?_
    refine r_region ?_
    refine l_x rfl (x_add rfl rfl (by omega)) ?_
    refine l_m rfl ?_
    refine l_nil ?_
    have hrk : (restsB (dl rs) (dl rq)) i k = false := by rw [hre]; first | (simp_all; done) | (simp_all; intros; omega)
    exact IH (k + 1, T1) _ _ (by dsimp only; omega) ⟨rfl, rfl, rfl, rfl, rfl, rfl, rfl, rfl, rfl, trivial⟩ ⟨by omega, hTk.skip hrk, (S41.take 2)⟩
   refine e_exact 6 _ (by kernel_rfl) rfl rfl (by kernel_rfl) rfl (ex_pass rfl) ?_
   refine e_exact 7 _ (by kernel_rfl) rfl rfl (by kernel_rfl) rfl (ex_pass rfl) ?_
   refine e_exact 8 _ (by kernel_rfl) rfl rfl (by kernel_rfl) rfl (ex_pass rfl) ?_
   refine e_exact 9 _ (by kernel_rfl) rfl rfl (by kernel_rfl) rfl (ex_pass rfl) ?_
   refine e_exact 10 _ (by kernel_rfl) rfl rfl (by kernel_rfl) rfl (ex_pass rfl) ?_
   refine e_exact 11 _ (by kernel_rfl) rfl rfl (by kernel_rfl) rfl (ex_pass rfl) ?_
   refine e_exact 12 _ (by kernel_rfl) rfl rfl (by kernel_rfl) rfl (ex_pass rfl) ?_
   refine e_exact 13 _ (by kernel_rfl) rfl rfl (by kernel_rfl) rfl (ex_x rfl (fun w1 h1 => x_pick_f rfl rfl)) ?_
   refine e_exact 14 _ (by kernel_rfl) rfl rfl (by kernel_rfl) rfl (ex_x rfl (fun w1 h1 => x_pick_f rfl rfl)) ?_
   refine e_done (by kernel_rfl) ?_
   refine l_nil ?_
   refine r_false rfl ?_
   refine r_skip ?_
   refine r_inBlock ?_
   refine r_region ?_
   refine l_x rfl (x_add rfl rfl (by omega)) ?_
   refine l_m rfl ?_
   refine l_nil ?_
   have hrk : (restsB (dl rs) (dl rq)) i k = false := by rw [hre]; first | (simp_all; done) | (simp_all; intros; omega)
   exact IH (k + 1, T1) _ _ (by dsimp only; omega) ⟨rfl, rfl, rfl, rfl, rfl, rfl, rfl, rfl, rfl, trivial⟩ ⟨by omega, hTk.skip hrk, (S32.take 2)⟩
  refine r_region ?_
  refine l_x rfl (x_fieldAddr rfl Tryz.runUnderlying26 rfl Tryz.sizeOf5 (by decide)) ?_
  refine l_x rfl (x_load rfl (ld_blk (S24.blk 1 rfl) Tryz.isAgg5 rfl)) ?_
  refine l_x rfl (x_eql rfl rfl) ?_
  refine l_m rfl ?_
  refine l_splitd (d := 31) rfl (fun hg31 => ?_) (fun hg31 => ?_)
  ·skip
   refine l_pass rfl ?_
   refine l_pass rfl ?_
   refine l_pass rfl ?_
   refine l_x rfl (x_pick_t rfl rfl) ?_
   refine l_m rfl ?_
   refine l_x rfl (x_fieldAddr rfl Tryz.runUnderlying26 rfl Tryz.sizeOf3 (by decide)) ?_
   refine l_x rfl (x_load rfl (ld_blk (S24.blk 2 rfl) Tryz.isAgg3 rfl)) ?_
   refine l_x rfl (x_fieldAddr rfl Tryz.runUnderlying26 rfl Tryz.sizeOf3 (by decide)) ?_
   refine l_x rfl (x_load rfl (ld_blk (S24.blk 1 rfl) Tryz.isAgg3 rfl)) ?_
   refine l_x rfl (x_eql rfl rfl) ?_
   refine l_x rfl (x_pick_t rfl rfl) ?_
   refine l_a rfl ?_
   refine l_nil ?_
   exact HK29 _ _ ⟨rfl, rfl, rfl, rfl, rfl, rfl, rfl, rfl, rfl, rfl, rfl, (congrArg Value.bool (by simp_all [plgB])), trivial⟩ trivial (S24.take 3)
  refine l_x rfl (x_fieldAddr rfl Tryz.runUnderlying26 rfl Tryz.sizeOf5 (by decide)) ?_
  refine l_x rfl (x_load rfl (ld_blk (S24.blk 1 rfl) Tryz.isAgg5 rfl)) ?_
  refine l_x rfl (x_eql rfl rfl) ?_
  refine l_x rfl (x_pick_f rfl rfl) ?_
  refine l_m rfl ?_
  refine l_splitd (d := 36) rfl (fun hg36 => ?_) (fun hg36 => ?_)
  ·skip
   refine l_x rfl (x_fieldAddr rfl Tryz.runUnderlying26 rfl Tryz.sizeOf3 (by decide)) ?_
   refine l_x rfl (x_load rfl (ld_blk (S24.blk 2 rfl) Tryz.isAgg3 rfl)) ?_
   refine l_x rfl (x_fieldAddr rfl Tryz.runUnderlying26 rfl Tryz.sizeOf3 (by decide)) ?_
   refine l_x rfl (x_load rfl (ld_blk (S24.blk 1 rfl) Tryz.isAgg3 rfl)) ?_
   refine l_x rfl (x_eql rfl rfl) ?_
   refine l_x rfl (x_pick_t rfl rfl) ?_
   refine l_a rfl ?_
   refine l_nil ?_
   exact HK29 _ _ ⟨rfl, rfl, rfl, rfl, rfl, rfl, rfl, rfl, rfl, rfl, rfl, (congrArg Value.bool (by simp_all [plgB])), trivial⟩ trivial (S24.take 3)
  refine l_pass rfl ?_
  refine l_pass rfl ?_
  refine l_pass rfl ?_
  refine l_pass rfl ?_
  refine l_pass rfl ?_
  refine l_x rfl (x_pick_f rfl rfl) ?_
  refine l_a rfl ?_
  refine l_nil ?_
  exact HK29 _ _ ⟨rfl, rfl, rfl, rfl, rfl, rfl, rfl, rfl, rfl, rfl, rfl, (congrArg Value.bool (by simp_all [plgB])), trivial⟩ trivial (S24.take 3)
 obtain rfl : k = rq.length := by omega
 refine r_exit rfl ?_
 refine r_end (rs := []) [] Tryz.func107 rfl trivial ?_
 exact ⟨T1, hTk.done fun q hr => by have h9 := rests_lt hr; rwa [dl_len] at h9, S1.take 1⟩

theorem c_take (rs rq : List Rw) (vl vq : Value) (m ba bm bl bk : Nat) (known : Int) (hR : rightD (dl rs) = true) (hq : dl rq = counting (dl rs) known) (hmq : ∀ a ∈ rq, a ∈ rs) : ∀ N, TkP rs rq vl vq m ba bm bl bk N := by
 intro N
 induction N with
 | zero => exact fun T i w h => absurd h (Nat.not_lt_zero _)
 | succ N IH => exact fun T i w h hi hn hl hT S => c_take1 rs rq vl vq m ba bm bl bk known hR hq hmq N IH T i h hi hn hl w hT S

end Go.Proofs

namespace Go.Proofs
open Go Go.Vk Go.Vk.Flow

open Go.Vk.Deed
theorem set_len {L : List Int} {vis : List (Int × Bool)} (hv : Vis (setM L) vis) : vis.length ≤ L.length := by
 have h := nodup_le (l := vis.map (·.1)) (m := L) hv.nd fun x hx => by
  obtain ⟨q, hq, rfl⟩ := List.mem_map.1 hx
  have := hv.of q hq
  unfold setM at this
  split at this
  ·assumption
  cases this
 rwa [List.length_map] at h
theorem tops_len {R : Nat → Nat → Bool} {st : Nat → Bool} {n i : Nat} {T : List Nat} (h : Tops R st n T i) : T.length ≤ n := by
 have := nodup_le h.nd fun q hq => List.mem_range.2 (h.lt q hq)
 rwa [List.length_range] at this
theorem lineage_fin {rs rq : List Rw} {known day o : Int} (hR : rightD (dl rs) = true) (ho : own o = true) (hq : dl rq = counting (dl rs) known) (hnd : ((dl rq).map (·.id)).Nodup) {T : List Nat} (h : Tops (restsB (dl rs) (dl rq)) (startB (dl rs) (dl rq) day o) rq.length T rq.length)
  {vis : List (Int × Bool)} (hv : Vis (setM (T.map (idAt (dl rq)))) vis) (hall : ∀ k a, setM (T.map (idAt (dl rq))) k = some a → (k, a) ∈ vis) {l' : List Int} (hp : l'.Perm (vis.map (·.1))) (hs : SortedL cmpI l') : l' = lineageD (dl rs) known day o := by
 have h1 := tops_lin (l := dl rs) (c := dl rq) hnd (by rw [dl_len]; exact h)
 have h2 := setM_perm (idAt_nd hnd h.nd fun k hk => by rw [dl_len]; exact h.lt k hk) hv hall
 rw [hq] at h1 h2
 exact lineage_of hR ho h1 (hp.trans h2) hs
theorem start_eq {l c : List D} {day o : Int} {i : Nat} {x : D} (hx : c[i]? = some x) : startB l c day o i = (decide (x.day ≤ day) && (nm l x).contains o) := by
 unfold startB; rw [hx]

set_option maxHeartbeats 4000000 in
theorem c_Lineage (rs : List Rw) (vl : Value) (known : Int) (day o : Int) (w : World) (hD : DsR 26 3 w vl rs) :
  Cl Tryz.prog 44 #[vl, .int .i64 known, .int .i64 day, .int .i64 o] w fun v w' => New w w' (vec EI v (lineageD (dl rs) known day o)) ∧ Le w w' := by
 refine fn_of_run (args := [_, _, _, _]) 64 Tryz.func44 rfl rfl rfl fun cs => ?_
 have S := Own.start (X := nob) w
 refine r_seq ?_
 refine r_region ?_
 refine l_box S rfl (Rd.cells (hD.rd.le S.le)) ?_
 intro b4 w1 S2 hl3
 refine l_a rfl ?_
 refine l_nil ?_
 refine r_seq ?_
 refine r_seq ?_
 refine r_region ?_
 refine l_x rfl (x_load rfl (ld_blk (S2.blk 0 rfl) Tryz.isAgg23 rfl)) ?_
 refine l_call [] [] [_] rfl rfl Tryz.call104 rfl (c_right rs _ _ (hD.le S2.le)) ?_
 rintro _ w5 ⟨rfl, hl7⟩
 have S6 := S2.step hl7
 refine l_x rfl (x_not rfl) ?_
 refine l_m rfl ?_
 refine l_split (d := 19) rfl (fun hg19 => ?_) (fun hg19 => ?_)
 ·skip
  refine l_pass rfl ?_
  refine l_pass rfl ?_
  refine l_pass rfl ?_
  refine l_pass rfl ?_
  refine l_x rfl (x_pick_t rfl rfl) ?_
  refine l_nil ?_
  refine r_true rfl ?_
  refine r_seq ?_
  refine r_region ?_
  refine l_a rfl ?_
  refine l_nil ?_
  refine r_ret (rs := [.tmp 8]) [_] Tryz.func44 rfl ⟨rfl, trivial⟩ ?_
  exact ⟨by rw [lineageD, if_neg (by simp_all)]; exact New.nilvec .., S6.le⟩
 have hR : rightD (dl rs) = true := by simpa using hg19
 refine l_m rfl ?_
 refine l_buildSlice EI [o] S6 rfl Tryz.runUnderlying24 Tryz.sizeOf3 Tryz.zeroValue3 rfl ⟨rfl, rfl, trivial⟩ (Nat.le_of_ble_eq_true rfl) ?_
 intro v11 w8 S9 hl10
 refine l_call [] [] [_] rfl rfl Tryz.call105 rfl (c_owned _ _ (by first | omega | exact Nat.le_of_ble_eq_true rfl) _ (vec_rd (S9.at 1 rfl))) ?_
 rintro _ w12 ⟨rfl, hl14⟩
 have S13 := S9.step hl14
 refine l_x rfl (x_not rfl) ?_
 refine l_x rfl (x_pick_f rfl rfl) ?_
 refine l_nil ?_
 refine r_if rfl (fun hc24 => ?_) (fun hc24 => ?_)
 ·skip
  refine r_seq ?_
  refine r_region ?_
  refine l_a rfl ?_
  refine l_nil ?_
  refine r_ret (rs := [.tmp 8]) [_] Tryz.func44 rfl ⟨rfl, trivial⟩ ?_
  exact ⟨by rw [lineageD, if_neg (by simp_all)]; exact New.nilvec .., S13.le⟩
 have ho : own o = true := by simpa using hc24
 refine r_skip ?_
 refine r_seq ?_
 refine r_region ?_
 refine l_x rfl (x_load rfl (ld_blk (S13.blk 0 rfl) Tryz.isAgg23 rfl)) ?_
 refine l_m rfl ?_
 refine l_call [] [] [_, _] rfl rfl Tryz.call106 rfl (c_counting rs _ known (right_asc hR) (by have := right_len hR; rw [dl_len] at this; exact this) _ (hD.le S13.le)) ?_
 rintro v2715 w15 ⟨rq2715, hq2715, hm2715, hN2715, hl2715⟩
 have S16 := S13.add hl2715 hN2715
 have hlq2715 : rq2715.length ≤ 400 := by rw [← dl_len, hq2715]; exact count_len hR
 refine l_alloc S16 rfl Tryz.zeroValue23 rfl ?_
 intro b20 w17 S18 hl19
 refine l_storeq (c' := [_]) (v := v2715) S18 3 rfl rfl rfl rfl (Rd.one (vec_rd (S18.at 2 rfl))) Tryz.sizeOf23 (by first | (simp; done) | exact Nat.le_of_ble_eq_true rfl) rfl ?_
 intro w21 S22 hk23
 refine l_nil ?_
 refine r_seq ?_
 obtain ⟨rq, hrqe⟩ : ∃ q, q = rq2715 := ⟨_, rfl⟩
 subst hrqe
 have hqq := hq2715
 have hmq := hm2715
 have hrl := hlq2715
 have hnd := (right_play (known := known) hR).nd
 rw [← hqq] at hnd
 refine r_region ?_
 refine l_makeMap kInt Value.bool S22 rfl ?_
 intro m27 w24 S25 hl26
 refine l_alloc S25 rfl Tryz.zeroValue121 rfl ?_
 intro b31 w28 S29 hl30
 refine l_storeq (c' := [_]) S29 5 rfl rfl rfl rfl rfl Tryz.sizeOf121 (by first | (simp; done) | exact Nat.le_of_ble_eq_true rfl) rfl ?_
 intro w32 S33 hk34
 refine l_nil ?_
 refine r_seq ?_
 refine r_region ?_
 refine l_alloc S33 rfl Tryz.zeroValue122 rfl ?_
 intro b38 w35 S36 hl37
 refine l_nil ?_
 refine r_seq ?_
 refine r_region ?_
 refine l_x rfl (x_func rfl rfl) ?_
 refine l_storeq (c' := [_]) S36 6 rfl rfl rfl rfl rfl Tryz.sizeOf122 (by first | (simp; done) | exact Nat.le_of_ble_eq_true rfl) rfl ?_
 intro w39 S40 hk41
 refine l_nil ?_
 refine r_seq ?_
 refine r_seq ?_
 refine r_region ?_
 refine l_x rfl (x_load rfl (ld_blk (S40.blk 3 rfl) Tryz.isAgg23 rfl)) ?_
 refine l_x rfl (x_len (vec_rd (S40.at 2 rfl)) rfl Tryz.runUnderlying23) ?_
 refine l_m rfl ?_
 refine l_nil ?_
 refine r_block ?_
 refine r_loop (G := Nat × List Nat) (fun ⟨i, T⟩ => rq.length - i) (fun ⟨i, T⟩ => [(2, .int .i64 day), (3, .int .i64 o), (4, .pointer (some ⟨b4, 0, none⟩)), (9, .pointer (some ⟨b20, 0, none⟩)), (10, .pointer (some ⟨b31, 0, none⟩)), (11, .pointer (some ⟨b38, 0, none⟩)), (30, v2715), (31, .int .i64 rq.length), (32, .int .i64 i)]) (fun ⟨i, T⟩ w' => (i ≤ rq.length) ∧ (Tops (restsB (dl rs) (dl rq)) (startB (dl rs) (dl rq) day o) rq.length T i) ∧ Own nob w w' [blk b4 [vl] 23, blk b20 [v2715] 23, blk b31 [.map (some m27)] 121, blk b38 [.func (.func 107) #[] #[.pointer (some ⟨b20, 0, none⟩), .pointer (some ⟨b31, 0, none⟩), .pointer (some ⟨b4, 0, none⟩), .pointer (some ⟨b38, 0, none⟩)]] 122, vec ED v2715 rq, mapr kInt Value.bool m27 (setM (T.map (idAt (dl rq))))]) (0, []) ⟨rfl, rfl, rfl, rfl, rfl, rfl, rfl, rfl, rfl, trivial⟩ ⟨Nat.zero_le _, .nil, (by rw [List.map_nil, ← setM_nil]; exact S40.pick [0, 3, 5, 6, 2, 4] (by decide) rfl)⟩ ?_
 rintro ⟨i, T⟩ ρ w1 ⟨hii, hTp, S1⟩ IH
 refine r_seq ?_
 refine r_region ?_
 refine l_x rfl (x_lss rfl rfl) ?_
 refine l_nil ?_
 refine r_seq ?_
 refine r_ifd rfl (fun hc33 => ?_) (fun hc33 => ?_)
 ·skip
  have hil : i < rq.length := by omega
  obtain ⟨a, ha⟩ : ∃ a, rq[i]? = some a := ⟨_, List.getElem?_eq_getElem hil⟩
  have ham := List.mem_of_getElem? ha
  have hnla := nm_len (fun y hy => right_formed hR hy) (right_formed hR (mem_dl (hmq _ ham)))
  have hse := start_eq (l := dl rs) (day := day) (o := o) (dl_get ha)
  have hst := tops_len hTp
  refine r_skip ?_
  refine r_seq ?_
  refine r_block ?_
  refine r_seq ?_
  refine r_region ?_
  refine l_m rfl ?_
  refine l_index ED rfl (vec_rd (S1.at 4 rfl)) rfl rfl Tryz.runUnderlying23 Tryz.sizeOf26 (by omega) ha ?_
  intro b42 o43 hat44 row45
  refine l_x rfl (x_load rfl (ld_row Tryz.isAgg26 Tryz.sizeOf26 rfl row45)) ?_
  refine l_alloc S1 rfl Tryz.zeroValue26 rfl ?_
  intro b49 w46 S47 hl48
  refine l_a rfl ?_
  refine l_stores (vs := [_, _, _, _, _, _, _, _, _, _, _]) S47 6 rfl rfl rfl rfl (ones_cons rfl (ones_cons rfl (ones_cons rfl (ones_cons rfl (ones_cons rfl (ones_cons rfl (ones_cons rfl (ones_cons rfl (ones_cons rfl (ones_cons (Rd.one ((hD.sub a (hmq a ham)).1.le S47.le)) (ones_cons (Rd.one ((hD.sub a (hmq a ham)).2.le S47.le)) ones_nil))))))))))) Tryz.sizeOf26 (by first | exact Nat.le_refl _ | simp) (splice_all rfl) ?_
  intro w50 S51 hk52
  refine l_nil ?_
  refine r_seq ?_
  refine r_region ?_
  refine l_x rfl (x_fieldAddr rfl Tryz.runUnderlying26 rfl Tryz.sizeOf3 (by decide)) ?_
  refine l_x rfl (x_load rfl (ld_blk (S51.blk 6 rfl) Tryz.isAgg3 rfl)) ?_
  refine l_m rfl ?_
  refine l_x rfl (x_leq rfl rfl) ?_
  refine l_m rfl ?_
  refine l_splitd (d := 41) rfl (fun hg41 => ?_) (fun hg41 => ?_)
  ·skip
   refine l_x rfl (x_load rfl (ld_blk (S51.blk 0 rfl) Tryz.isAgg23 rfl)) ?_
   refine l_x rfl (x_load rfl (ld_blks (S51.blk 6 rfl) Tryz.isAgg26 Tryz.sizeOf26 rfl rfl)) ?_
   refine l_call [] [] [_, _] rfl rfl Tryz.call109 rfl (c_names rs vl a (fun y hy => right_formed hR hy) (right_formed hR (mem_dl (hmq a ham))) (fun k => by have h9 := right_of hR (mem_dl (hmq a ham)) k; rw [dl_len] at h9; exact ⟨h9.1, _, List.getElem?_eq_getElem (by omega)⟩) _ (hD.le S51.le) ((hD.sub a (hmq a ham)).le S51.le)) ?_
   rintro v4453 w53 ⟨hN4453, hl4453⟩
   have S54 := S51.add hl4453 hN4453
   refine l_m rfl ?_
   refine l_call [] [] [_, _] rfl rfl Tryz.call83 rfl (c_Contains _ _ _ (by omega) _ (vec_rd (S54.at 7 rfl))) ?_
   rintro _ w55 ⟨rfl, hl57⟩
   have S56 := S54.step hl57
   refine l_x rfl (x_pick_t rfl rfl) ?_
   refine l_nil ?_
   refine r_if rfl (fun hc47 => ?_) (fun hc47 => ?_)
   ·skip
    refine r_region ?_
    refine l_x rfl (x_load rfl (ld_blk (S56.blk 3 rfl) Tryz.isAgg122 rfl)) ?_
    refine l_m rfl ?_
    refine l_call [] [_, _, _, _] [_, _, _, _, _] rfl rfl Tryz.call107 rfl (c_take rs rq vl v2715 m27 b20 b31 b4 b38 known hR hqq hmq (rq.length + 1) T i _ (by omega) hil hTp.nd hTp.lt (fun wz hk => ⟨⟨vec_rd ((S56).beside 5 4 rfl rfl (by decide) hk), fun a ha => (hD.sub a (hmq a ha)).le (hk.old (S56).le (fun c hc => ((S56).bd 5 _ rfl c hc).2.resolve_right id)), by omega⟩, hD.le (hk.old (S56).le (fun c hc => ((S56).bd 5 _ rfl c hc).2.resolve_right id)), ((S56).beside 5 1 rfl rfl (by decide) hk), ((S56).beside 5 2 rfl rfl (by decide) hk), ((S56).beside 5 0 rfl rfl (by decide) hk), ((S56).beside 5 3 rfl rfl (by decide) hk)⟩) ((S56).lend 5 rfl)) ?_
    rintro _ w58 ⟨T2, hK, hb60⟩
    have S59 := S56.back 5 rfl hb60
    refine l_nil ?_
    refine r_inBlock ?_
    refine r_region ?_
    refine l_x rfl (x_add rfl rfl (by omega)) ?_
    refine l_m rfl ?_
    refine l_nil ?_
    have hrk : (startB (dl rs) (dl rq) day o) i = true := by rw [hse]; first | (simp_all; done) | (simp_all; intros; omega)
    exact IH (i + 1, T2) _ _ (by dsimp only; omega) ⟨rfl, rfl, rfl, rfl, rfl, rfl, rfl, rfl, rfl, trivial⟩ ⟨by omega, hTp.take hrk hK, (S59.take 6)⟩
   refine r_skip ?_
   refine r_inBlock ?_
   refine r_region ?_
   refine l_x rfl (x_add rfl rfl (by omega)) ?_
   refine l_m rfl ?_
   refine l_nil ?_
   have hrk : (startB (dl rs) (dl rq) day o) i = false := by rw [hse]; first | (simp_all; done) | (simp_all; intros; omega)
   exact IH (i + 1, T) _ _ (by dsimp only; omega) ⟨rfl, rfl, rfl, rfl, rfl, rfl, rfl, rfl, rfl, trivial⟩ ⟨by omega, hTp.skip hrk, (S56.take 6)⟩
  refine l_pass rfl ?_
  refine l_pass rfl ?_
  refine l_pass rfl ?_
  refine l_pass rfl ?_
  refine l_pass rfl ?_
  refine l_x rfl (x_pick_f rfl rfl) ?_
  refine l_nil ?_
  refine r_false rfl ?_
  refine r_skip ?_
  refine r_inBlock ?_
  refine r_region ?_
  refine l_x rfl (x_add rfl rfl (by omega)) ?_
  refine l_m rfl ?_
  refine l_nil ?_
  have hrk : (startB (dl rs) (dl rq) day o) i = false := by rw [hse]; first | (simp_all; done) | (simp_all; intros; omega)
  exact IH (i + 1, T) _ _ (by dsimp only; omega) ⟨rfl, rfl, rfl, rfl, rfl, rfl, rfl, rfl, rfl, trivial⟩ ⟨by omega, hTp.skip hrk, (S51.take 6)⟩
 obtain rfl : i = rq.length := by omega
 have hst := tops_len hTp
 refine r_exit rfl ?_
 refine r_seq ?_
 refine r_region ?_
 refine l_a rfl ?_
 have S61 := S1.nilvec (E := EI)
 refine l_nil ?_
 refine r_seq ?_
 refine r_seq ?_
 obtain ⟨es, clock, hm, hM⟩ := S61.at 5 rfl
 have So := S61.as 5 rfl (r' := obj m27 (.map es clock)) hm (fun c h => h)
 refine r_region ?_
 refine l_x rfl (x_load rfl (ld_blk (So.blk 2 rfl) Tryz.isAgg121 rfl)) ?_
 refine l_range kInt Value.bool So rfl Tryz.runUnderlying121 rfl (by first | exact So.obj 5 rfl | exact So.obj 1 rfl) ?_
 intro it65 w62 S63 hl64
 refine l_nil ?_
 refine r_block ?_
 refine r_loop (G := List (Int × Bool) × Value) (fun ⟨vis, vo⟩ => es.size - vis.length) (fun ⟨vis, vo⟩ => [(14, vo), (53, .pointer (some ⟨it65, 0, none⟩))]) (fun ⟨vis, vo⟩ w' => (Vis (setM (T.map (idAt (dl rq)))) vis) ∧ Own nob w w' [vec EI vo (vis.map (·.1)), obj m27 (.map es clock), itr kInt Value.bool it65 m27 es clock vis]) ([], .slice none 0 0) ⟨rfl, rfl, trivial⟩ ⟨.nil, (S63.pick [6, 5, 7] (by decide) rfl)⟩ ?_
 rintro ⟨vis, vo⟩ ρ w1b ⟨hV, S1b⟩ IHb
 have hvl := set_len hV
 rw [List.length_map] at hvl
 refine r_seq ?_
 refine r_region ?_
 refine l_next S1b 2 rfl rfl keyI (fun _ _ h => by cases h; rfl) hM rfl (by first | exact S1b.obj 5 rfl | exact S1b.obj 1 rfl) (fun hAll => ?_) (fun c a w66 hfc hnew S67 hk68 => ?_)
 ·skip
  refine l_x rfl (x_extract rfl rfl) ?_
  refine l_nil ?_
  refine r_seq ?_
  refine r_false rfl ?_
  refine r_exit rfl ?_
  refine r_seq ?_
  refine r_region ?_
  refine l_m rfl ?_
  refine l_call [] [] [_, _] rfl rfl Tryz.call110 rfl (c_sortedInt _ _ (by have := set_len hV; rw [List.length_map] at *; omega) _ (vec_rd (S1b.at 0 rfl))) ?_
  rintro v6369 w69 ⟨l6369, hp6369, hs6369, hN6369, hl6369⟩
  have S70 := S1b.add hl6369 hN6369
  refine l_a rfl ?_
  refine l_nil ?_
  refine r_ret (rs := [.tmp 8]) [_] Tryz.func44 rfl ⟨rfl, trivial⟩ ?_
  obtain rfl : l6369 = lineageD (dl rs) known day o := lineage_fin hR ho hqq hnd hTp hV hAll hp6369 hs6369
  exact ⟨S70.new 3 rfl, S70.le⟩
 have hlen := itr_len (S67.at 2 rfl)
 rw [List.length_append, List.length_singleton] at hlen
 have hV2 := hV.step hfc hnew
 have hvl := set_len hV
 rw [List.length_map] at hvl
 refine l_x rfl (x_extract rfl rfl) ?_
 refine l_nil ?_
 refine r_seq ?_
 refine r_true rfl ?_
 refine r_skip ?_
 refine r_block ?_
 refine r_seq ?_
 refine r_region ?_
 refine l_x rfl (x_entry (S67.at 2 rfl) hM (by first | exact S67.obj 5 rfl | exact S67.obj 1 rfl) rfl) ?_
 refine l_x rfl (x_extract rfl rfl) ?_
 refine l_a rfl ?_
 refine l_nil ?_
 refine r_region ?_
 refine l_m rfl ?_
 refine l_m rfl ?_
 refine l_buildSlice EI [c] S67 rfl Tryz.runUnderlying24 Tryz.sizeOf3 Tryz.zeroValue3 rfl ⟨rfl, rfl, trivial⟩ (Nat.le_of_ble_eq_true rfl) ?_
 intro v74 w71 S72 hl73
 refine l_append EI S72 0 rfl rfl rfl rfl (vec_rd (S72.at 3 rfl)) Tryz.underlying24 info3 rfl rfl rfl (by unfold maxLen; rw [List.length_map, List.length_singleton]; omega) (by rw [List.length_map, List.length_singleton]; show _ * 8 ≤ _; omega) ?_
 intro v78 w75 S76 hk77 hv79
 refine l_a rfl ?_
 refine l_nil ?_
 refine r_inBlock ?_
 exact IHb (vis ++ [(c, a)], v78) _ _ (by dsimp only; rw [List.length_append, List.length_singleton]; omega) ⟨rfl, rfl, trivial⟩ ⟨hV2, (by rw [List.map_append]; exact S76.take 3)⟩

end Go.Proofs

namespace Go.Proofs
open Go Go.Vk Go.Vk.Flow

open Go.Vk.Deed
theorem take_same {α : Type} {a b : List α} {i : Nat} {x y : α} (hx : a[i]? = some x) (hy : b[i]? = some y) (e : x = y) (h : a.take i = b.take i) : a.take (i + 1) = b.take (i + 1) := by
 rw [List.take_add_one, List.take_add_one, hx, hy, h, e]

theorem intF84 : IntFields Tryz.prog 0 (Tryz.prog.fieldsOf 84).toList := intFields_of (P := Tryz.prog) (t := 3) Tryz.underlying3 Tryz.isAgg3 (Tryz.prog.fieldsOf 84).toList 0 (by kernel_rfl)
theorem struct84 : Tryz.prog.underlying 84 = some (.struct (Tryz.prog.fieldsOf 84)) := by kernel_rfl
theorem stood84 : Tryz.prog.stoodInHeld 84 = false := by kernel_rfl
theorem guard84 : Tryz.prog.eqGuardType Tryz.prog.depth 84 = false := by kernel_rfl
theorem len84 : (Tryz.prog.fieldsOf 84).toList.length = 5 := by kernel_rfl
def lzInts (a : Lz) : List Int := [a.deed, a.frm, a.to, a.parts, a.stop]
theorem lzInts_inj {a b : Lz} : lzInts a = lzInts b ↔ a = b := by
 obtain ⟨a0, a1, a2, a3, a4⟩ := a
 obtain ⟨b0, b1, b2, b3, b4⟩ := b
 simp [lzInts]
theorem x_nelz {a b : Lz} {w : World} {E : Operand → Value} {x y : Operand} {T ty : TypeId} (hx : E x = .agg (encLz a).toArray) (hy : E y = .agg (encLz b).toArray) : X Tryz.prog E (.binOp .neq 84 x y T) ty w (.bool (decide (¬ a = b))) w := by
 have h := x_neints (T' := T) (ty := ty) (w := w) (a := lzInts a) (b := lzInts b) struct84 stood84 guard84 intF84 (by rw [len84]; rfl) (by rw [len84]; rfl) hx hy
 have e : decide (¬ lzInts a = lzInts b) = decide (¬ a = b) := decide_eq_decide.2 (by rw [lzInts_inj])
 rwa [e] at h

theorem intF86 : IntFields Tryz.prog 0 (Tryz.prog.fieldsOf 86).toList := intFields_of (P := Tryz.prog) (t := 3) Tryz.underlying3 Tryz.isAgg3 (Tryz.prog.fieldsOf 86).toList 0 (by kernel_rfl)
theorem struct86 : Tryz.prog.underlying 86 = some (.struct (Tryz.prog.fieldsOf 86)) := by kernel_rfl
theorem stood86 : Tryz.prog.stoodInHeld 86 = false := by kernel_rfl
theorem guard86 : Tryz.prog.eqGuardType Tryz.prog.depth 86 = false := by kernel_rfl
theorem len86 : (Tryz.prog.fieldsOf 86).toList.length = 4 := by kernel_rfl
def plInts (a : Pl) : List Int := [a.deed, a.frm, a.to, a.parts]
theorem plInts_inj {a b : Pl} : plInts a = plInts b ↔ a = b := by
 obtain ⟨a0, a1, a2, a3⟩ := a
 obtain ⟨b0, b1, b2, b3⟩ := b
 simp [plInts]
theorem x_nepl {a b : Pl} {w : World} {E : Operand → Value} {x y : Operand} {T ty : TypeId} (hx : E x = .agg (encPl a).toArray) (hy : E y = .agg (encPl b).toArray) : X Tryz.prog E (.binOp .neq 86 x y T) ty w (.bool (decide (¬ a = b))) w := by
 have h := x_neints (T' := T) (ty := ty) (w := w) (a := plInts a) (b := plInts b) struct86 stood86 guard86 intF86 (by rw [len86]; rfl) (by rw [len86]; rfl) hx hy
 have e : decide (¬ plInts a = plInts b) = decide (¬ a = b) := decide_eq_decide.2 (by rw [plInts_inj])
 rwa [e] at h

theorem c_SameInts (va : Value) (a : List Int) (vb : Value) (b : List Int) (hm : a.length ≤ 9223372036854775807) (w : World) (Ha : Rd EI w va a) (Hb : Rd EI w vb b) :
  Cl Tryz.prog 31 #[va, vb] w fun v w' => v = .bool (decide (a = b)) ∧ Le w w' := by
 refine fn_of_run (args := [_, _]) 26 Tryz.func31 rfl rfl rfl fun cs => ?_
 have S := Own.start (X := nob) w
 refine r_seq ?_
 refine r_region ?_
 refine l_a rfl ?_
 refine l_nil ?_
 refine r_seq ?_
 refine r_seq ?_
 refine r_region ?_
 refine l_m rfl ?_
 refine l_x rfl (x_len (Ha.le S.le) rfl Tryz.runUnderlying24) ?_
 refine l_m rfl ?_
 refine l_x rfl (x_len (Hb.le S.le) rfl Tryz.runUnderlying24) ?_
 refine l_x rfl (x_neq rfl rfl) ?_
 refine l_nil ?_
 refine r_ifd rfl (fun hc10 => ?_) (fun hc10 => ?_)
 ·skip
  refine r_seq ?_
  refine r_region ?_
  refine l_a rfl ?_
  refine l_nil ?_
  refine r_ret (rs := [.tmp 4]) [_] Tryz.func31 rfl ⟨rfl, trivial⟩ ?_
  exact ⟨congrArg Value.bool (decide_eq_false (fun h => by subst h; omega)).symm, S.le⟩
 have hab : a.length = b.length := by omega
 refine r_skip ?_
 refine r_seq ?_
 refine r_seq ?_
 refine r_region ?_
 refine l_a rfl ?_
 refine l_nil ?_
 refine r_block ?_
 refine r_loop (G := Nat) (fun i => a.length - i) (fun i => [(0, va), (1, vb), (5, .int .i64 i)]) (fun i w' => (i ≤ a.length) ∧ (a.take i = b.take i) ∧ Own nob w w' []) 0 ⟨rfl, rfl, rfl, trivial⟩ ⟨Nat.zero_le _, by simp, S⟩ ?_
 rintro i ρ w1 ⟨hi, hs, S1⟩ IH
 refine r_seq ?_
 refine r_seq ?_
 refine r_region ?_
 refine l_m rfl ?_
 refine l_m rfl ?_
 refine l_x rfl (x_len (Ha.le S1.le) rfl Tryz.runUnderlying24) ?_
 refine l_x rfl (x_lss rfl rfl) ?_
 refine l_nil ?_
 refine r_ifd rfl (fun hc14 => ?_) (fun hc14 => ?_)
 ·skip
  obtain ⟨x, hx⟩ : ∃ x, a[i]? = some x := ⟨_, List.getElem?_eq_getElem (by omega)⟩
  obtain ⟨y, hy⟩ : ∃ y, b[i]? = some y := ⟨_, List.getElem?_eq_getElem (by omega)⟩
  refine r_skip ?_
  refine r_seq ?_
  refine r_block ?_
  refine r_seq ?_
  refine r_drawR 9 Tryz.mixed (by kernel_rfl) ?_
  refine w_x rfl (fun w1 h1 => x_mv rfl) ?_
  refine w_x rfl (fun w1 h1 => x_mv rfl) ?_
  refine w_index EI rfl (Ha.le S1.le) rfl rfl Tryz.runUnderlying24 Tryz.sizeOf3 (by omega) (by first | assumption | exact List.getElem?_eq_getElem (by omega)) ?_
  intro b1 o2 hat3 row4
  refine w_x rfl (fun w1 h1 => x_load rfl (ld_cell Tryz.isAgg3 ((row4.le h1) 0 _ rfl))) ?_
  refine w_x rfl (fun w1 h1 => x_mv rfl) ?_
  refine w_x rfl (fun w1 h1 => x_mv rfl) ?_
  refine w_index EI rfl (Hb.le S1.le) rfl rfl Tryz.runUnderlying24 Tryz.sizeOf3 (by omega) (by first | assumption | exact List.getElem?_eq_getElem (by omega)) ?_
  intro b5 o6 hat7 row8
  refine w_x rfl (fun w1 h1 => x_load rfl (ld_cell Tryz.isAgg3 ((row8.le h1) 0 _ rfl))) ?_
  refine w_x rfl (fun w1 h1 => x_neq rfl rfl) ?_
  refine w_nil ?_
  intro w9 hl10
  have S11 := S1.step hl10
  refine l_nil ?_
  refine r_ifd rfl (fun hc25 => ?_) (fun hc25 => ?_)
  ·skip
   refine r_seq ?_
   refine r_region ?_
   refine l_a rfl ?_
   refine l_nil ?_
   refine r_ret (rs := [.tmp 4]) [_] Tryz.func31 rfl ⟨rfl, trivial⟩ ?_
   exact ⟨congrArg Value.bool (decide_eq_false (fun h => by subst h; rw [hx] at hy; exact hc25 (Option.some.inj hy))).symm, S11.le⟩
  have hc25 : x = y := Decidable.not_not.1 hc25
  refine r_skip ?_
  refine r_inBlock ?_
  refine r_region ?_
  refine l_m rfl ?_
  refine l_x rfl (x_add rfl rfl (by omega)) ?_
  refine l_a rfl ?_
  refine l_nil ?_
  exact IH (i + 1) _ _ (by omega) ⟨rfl, rfl, rfl, trivial⟩ ⟨by omega, take_same hx hy hc25 hs, S11⟩
 have hie : i = a.length := by omega
 subst hie
 refine r_exit rfl ?_
 refine r_seq ?_
 refine r_region ?_
 refine l_a rfl ?_
 refine l_nil ?_
 refine r_ret (rs := [.tmp 4]) [_] Tryz.func31 rfl ⟨rfl, trivial⟩ ?_
 exact ⟨congrArg Value.bool (decide_eq_true (by rw [List.take_length] at hs; rw [hs, hab, List.take_length])).symm, S1.le⟩

theorem c_SameLeases (va : Value) (a : List Lz) (vb : Value) (b : List Lz) (hm : a.length ≤ 9223372036854775807) (w : World) (Ha : Rd ELZ w va a) (Hb : Rd ELZ w vb b) :
  Cl Tryz.prog 67 #[va, vb] w fun v w' => v = .bool (decide (a = b)) ∧ Le w w' := by
 refine fn_of_run (args := [_, _]) 26 Tryz.func67 rfl rfl rfl fun cs => ?_
 have S := Own.start (X := nob) w
 refine r_seq ?_
 refine r_region ?_
 refine l_a rfl ?_
 refine l_nil ?_
 refine r_seq ?_
 refine r_seq ?_
 refine r_region ?_
 refine l_m rfl ?_
 refine l_x rfl (x_len (Ha.le S.le) rfl Tryz.runUnderlying78) ?_
 refine l_m rfl ?_
 refine l_x rfl (x_len (Hb.le S.le) rfl Tryz.runUnderlying78) ?_
 refine l_x rfl (x_neq rfl rfl) ?_
 refine l_nil ?_
 refine r_ifd rfl (fun hc10 => ?_) (fun hc10 => ?_)
 ·skip
  refine r_seq ?_
  refine r_region ?_
  refine l_a rfl ?_
  refine l_nil ?_
  refine r_ret (rs := [.tmp 4]) [_] Tryz.func67 rfl ⟨rfl, trivial⟩ ?_
  exact ⟨congrArg Value.bool (decide_eq_false (fun h => by subst h; omega)).symm, S.le⟩
 have hab : a.length = b.length := by omega
 refine r_skip ?_
 refine r_seq ?_
 refine r_seq ?_
 refine r_region ?_
 refine l_a rfl ?_
 refine l_nil ?_
 refine r_block ?_
 refine r_loop (G := Nat) (fun i => a.length - i) (fun i => [(0, va), (1, vb), (5, .int .i64 i)]) (fun i w' => (i ≤ a.length) ∧ (a.take i = b.take i) ∧ Own nob w w' []) 0 ⟨rfl, rfl, rfl, trivial⟩ ⟨Nat.zero_le _, by simp, S⟩ ?_
 rintro i ρ w1 ⟨hi, hs, S1⟩ IH
 refine r_seq ?_
 refine r_seq ?_
 refine r_region ?_
 refine l_m rfl ?_
 refine l_m rfl ?_
 refine l_x rfl (x_len (Ha.le S1.le) rfl Tryz.runUnderlying78) ?_
 refine l_x rfl (x_lss rfl rfl) ?_
 refine l_nil ?_
 refine r_ifd rfl (fun hc14 => ?_) (fun hc14 => ?_)
 ·skip
  obtain ⟨x, hx⟩ : ∃ x, a[i]? = some x := ⟨_, List.getElem?_eq_getElem (by omega)⟩
  obtain ⟨y, hy⟩ : ∃ y, b[i]? = some y := ⟨_, List.getElem?_eq_getElem (by omega)⟩
  refine r_skip ?_
  refine r_seq ?_
  refine r_block ?_
  refine r_seq ?_
  refine r_drawR 9 Tryz.mixed (by kernel_rfl) ?_
  refine w_x rfl (fun w1 h1 => x_mv rfl) ?_
  refine w_x rfl (fun w1 h1 => x_mv rfl) ?_
  refine w_index ELZ rfl (Ha.le S1.le) rfl rfl Tryz.runUnderlying78 Tryz.sizeOf84 (by omega) (by first | assumption | exact List.getElem?_eq_getElem (by omega)) ?_
  intro b1 o2 hat3 row4
  refine w_x rfl (fun w1 h1 => x_load rfl (ld_row Tryz.isAgg84 Tryz.sizeOf84 rfl (row4.le h1))) ?_
  refine w_x rfl (fun w1 h1 => x_mv rfl) ?_
  refine w_x rfl (fun w1 h1 => x_mv rfl) ?_
  refine w_index ELZ rfl (Hb.le S1.le) rfl rfl Tryz.runUnderlying78 Tryz.sizeOf84 (by omega) (by first | assumption | exact List.getElem?_eq_getElem (by omega)) ?_
  intro b5 o6 hat7 row8
  refine w_x rfl (fun w1 h1 => x_load rfl (ld_row Tryz.isAgg84 Tryz.sizeOf84 rfl (row8.le h1))) ?_
  refine w_x rfl (fun w1 h1 => x_nelz rfl rfl) ?_
  refine w_nil ?_
  intro w9 hl10
  have S11 := S1.step hl10
  refine l_nil ?_
  refine r_ifd rfl (fun hc25 => ?_) (fun hc25 => ?_)
  ·skip
   refine r_seq ?_
   refine r_region ?_
   refine l_a rfl ?_
   refine l_nil ?_
   refine r_ret (rs := [.tmp 4]) [_] Tryz.func67 rfl ⟨rfl, trivial⟩ ?_
   exact ⟨congrArg Value.bool (decide_eq_false (fun h => by subst h; rw [hx] at hy; exact hc25 (Option.some.inj hy))).symm, S11.le⟩
  have hc25 : x = y := Decidable.not_not.1 hc25
  refine r_skip ?_
  refine r_inBlock ?_
  refine r_region ?_
  refine l_m rfl ?_
  refine l_x rfl (x_add rfl rfl (by omega)) ?_
  refine l_a rfl ?_
  refine l_nil ?_
  exact IH (i + 1) _ _ (by omega) ⟨rfl, rfl, rfl, trivial⟩ ⟨by omega, take_same hx hy hc25 hs, S11⟩
 have hie : i = a.length := by omega
 subst hie
 refine r_exit rfl ?_
 refine r_seq ?_
 refine r_region ?_
 refine l_a rfl ?_
 refine l_nil ?_
 refine r_ret (rs := [.tmp 4]) [_] Tryz.func67 rfl ⟨rfl, trivial⟩ ?_
 exact ⟨congrArg Value.bool (decide_eq_true (by rw [List.take_length] at hs; rw [hs, hab, List.take_length])).symm, S1.le⟩

theorem c_SamePledges (va : Value) (a : List Pl) (vb : Value) (b : List Pl) (hm : a.length ≤ 9223372036854775807) (w : World) (Ha : Rd EPL w va a) (Hb : Rd EPL w vb b) :
  Cl Tryz.prog 70 #[va, vb] w fun v w' => v = .bool (decide (a = b)) ∧ Le w w' := by
 refine fn_of_run (args := [_, _]) 26 Tryz.func70 rfl rfl rfl fun cs => ?_
 have S := Own.start (X := nob) w
 refine r_seq ?_
 refine r_region ?_
 refine l_a rfl ?_
 refine l_nil ?_
 refine r_seq ?_
 refine r_seq ?_
 refine r_region ?_
 refine l_m rfl ?_
 refine l_x rfl (x_len (Ha.le S.le) rfl Tryz.runUnderlying81) ?_
 refine l_m rfl ?_
 refine l_x rfl (x_len (Hb.le S.le) rfl Tryz.runUnderlying81) ?_
 refine l_x rfl (x_neq rfl rfl) ?_
 refine l_nil ?_
 refine r_ifd rfl (fun hc10 => ?_) (fun hc10 => ?_)
 ·skip
  refine r_seq ?_
  refine r_region ?_
  refine l_a rfl ?_
  refine l_nil ?_
  refine r_ret (rs := [.tmp 4]) [_] Tryz.func70 rfl ⟨rfl, trivial⟩ ?_
  exact ⟨congrArg Value.bool (decide_eq_false (fun h => by subst h; omega)).symm, S.le⟩
 have hab : a.length = b.length := by omega
 refine r_skip ?_
 refine r_seq ?_
 refine r_seq ?_
 refine r_region ?_
 refine l_a rfl ?_
 refine l_nil ?_
 refine r_block ?_
 refine r_loop (G := Nat) (fun i => a.length - i) (fun i => [(0, va), (1, vb), (5, .int .i64 i)]) (fun i w' => (i ≤ a.length) ∧ (a.take i = b.take i) ∧ Own nob w w' []) 0 ⟨rfl, rfl, rfl, trivial⟩ ⟨Nat.zero_le _, by simp, S⟩ ?_
 rintro i ρ w1 ⟨hi, hs, S1⟩ IH
 refine r_seq ?_
 refine r_seq ?_
 refine r_region ?_
 refine l_m rfl ?_
 refine l_m rfl ?_
 refine l_x rfl (x_len (Ha.le S1.le) rfl Tryz.runUnderlying81) ?_
 refine l_x rfl (x_lss rfl rfl) ?_
 refine l_nil ?_
 refine r_ifd rfl (fun hc14 => ?_) (fun hc14 => ?_)
 ·skip
  obtain ⟨x, hx⟩ : ∃ x, a[i]? = some x := ⟨_, List.getElem?_eq_getElem (by omega)⟩
  obtain ⟨y, hy⟩ : ∃ y, b[i]? = some y := ⟨_, List.getElem?_eq_getElem (by omega)⟩
  refine r_skip ?_
  refine r_seq ?_
  refine r_block ?_
  refine r_seq ?_
  refine r_drawR 9 Tryz.mixed (by kernel_rfl) ?_
  refine w_x rfl (fun w1 h1 => x_mv rfl) ?_
  refine w_x rfl (fun w1 h1 => x_mv rfl) ?_
  refine w_index EPL rfl (Ha.le S1.le) rfl rfl Tryz.runUnderlying81 Tryz.sizeOf86 (by omega) (by first | assumption | exact List.getElem?_eq_getElem (by omega)) ?_
  intro b1 o2 hat3 row4
  refine w_x rfl (fun w1 h1 => x_load rfl (ld_row Tryz.isAgg86 Tryz.sizeOf86 rfl (row4.le h1))) ?_
  refine w_x rfl (fun w1 h1 => x_mv rfl) ?_
  refine w_x rfl (fun w1 h1 => x_mv rfl) ?_
  refine w_index EPL rfl (Hb.le S1.le) rfl rfl Tryz.runUnderlying81 Tryz.sizeOf86 (by omega) (by first | assumption | exact List.getElem?_eq_getElem (by omega)) ?_
  intro b5 o6 hat7 row8
  refine w_x rfl (fun w1 h1 => x_load rfl (ld_row Tryz.isAgg86 Tryz.sizeOf86 rfl (row8.le h1))) ?_
  refine w_x rfl (fun w1 h1 => x_nepl rfl rfl) ?_
  refine w_nil ?_
  intro w9 hl10
  have S11 := S1.step hl10
  refine l_nil ?_
  refine r_ifd rfl (fun hc25 => ?_) (fun hc25 => ?_)
  ·skip
   refine r_seq ?_
   refine r_region ?_
   refine l_a rfl ?_
   refine l_nil ?_
   refine r_ret (rs := [.tmp 4]) [_] Tryz.func70 rfl ⟨rfl, trivial⟩ ?_
   exact ⟨congrArg Value.bool (decide_eq_false (fun h => by subst h; rw [hx] at hy; exact hc25 (Option.some.inj hy))).symm, S11.le⟩
  have hc25 : x = y := Decidable.not_not.1 hc25
  refine r_skip ?_
  refine r_inBlock ?_
  refine r_region ?_
  refine l_m rfl ?_
  refine l_x rfl (x_add rfl rfl (by omega)) ?_
  refine l_a rfl ?_
  refine l_nil ?_
  exact IH (i + 1) _ _ (by omega) ⟨rfl, rfl, rfl, trivial⟩ ⟨by omega, take_same hx hy hc25 hs, S11⟩
 have hie : i = a.length := by omega
 subst hie
 refine r_exit rfl ?_
 refine r_seq ?_
 refine r_region ?_
 refine l_a rfl ?_
 refine l_nil ?_
 refine r_ret (rs := [.tmp 4]) [_] Tryz.func70 rfl ⟨rfl, trivial⟩ ?_
 exact ⟨congrArg Value.bool (decide_eq_true (by rw [List.take_length] at hs; rw [hs, hab, List.take_length])).symm, S1.le⟩

def plainB (x : D) : Bool := decide (x.heirs.length ≤ 20 ∧ x.shares.length ≤ 20)
def fewB (l : List D) : Bool := decide (l.length ≤ 24) && l.all plainB
theorem few_no {rs : List Rw} {i : Nat} {a : Rw} (ha : rs[i]? = some a) (h : plainB a.1 = false) : fewB (dl rs) = false := by
 have : (dl rs).all plainB = false := by
  rw [List.all_eq_false]; exact ⟨a.1, List.mem_of_getElem? (dl_get ha), by simp [h]⟩
 rw [fewB, this, Bool.and_false]
theorem few_yes {rs : List Rw} (h : ∀ x ∈ rs, plainB x.1 = true) : fewB (dl rs) = decide (rs.length ≤ 24) := by
 have : (dl rs).all plainB = true := by
  rw [List.all_eq_true]
  intro x hx
  obtain ⟨a, ha, rfl⟩ := List.mem_map.1 hx
  exact h a ha
 rw [fewB, this, Bool.and_true, dl_len]
theorem few_many {l : List D} (h : ¬ l.length ≤ 24) : fewB l = false := by rw [fewB, decide_eq_false h, Bool.false_and]
theorem all_step3 {p : Rw → Bool} {l : List Rw} {i : Nat} {a : Rw} (h : ∀ x ∈ l.take i, p x = true) (ha : l[i]? = some a) (hp : p a = true) : ∀ x ∈ l.take (i + 1), p x = true := by
 intro x hx
 rw [List.take_add_one, ha] at hx
 rcases List.mem_append.1 hx with g | g
 ·exact h x g
 simp at g; subst g; exact hp
theorem ixd_step {l : List Rw} {i : Nat} {a : Rw} {p : Rw → Bool} (h : ∀ y ∈ l.take i, p y = false) (ha : l[i]? = some a) (hn : p a = false) : ∀ y ∈ l.take (i + 1), p y = false := by
 intro y hy
 rw [List.take_add_one, ha] at hy
 rcases List.mem_append.1 hy with g | g
 ·exact h y g
 simp at g; subst g; exact hn
theorem c_plain (a : Rw) (w : World) (hA : SubR 3 w a) :
  Cl Tryz.prog 26 #[.agg (encD a).toArray] w fun v w' => v = .bool (plainB a.1) ∧ Le w w' := by
 refine fn_of_run (args := [_]) 13 Tryz.func26 rfl rfl rfl fun cs => ?_
 have S := Own.start (X := nob) w
 refine r_seq ?_
 refine r_region ?_
 refine l_box S rfl rfl ?_
 intro b4 w1 S2 hl3
 refine l_a rfl ?_
 refine l_nil ?_
 refine r_seq ?_
 refine r_region ?_
 refine l_x rfl (x_fieldAddr rfl Tryz.runUnderlying26 rfl Tryz.sizeOf24 (by decide)) ?_
 refine l_x rfl (x_load rfl (ld_blk (S2.blk 0 rfl) Tryz.isAgg24 rfl)) ?_
 refine l_x rfl (x_len (hA.1.le S2.le) rfl Tryz.runUnderlying24) ?_
 refine l_x rfl (x_leq rfl rfl) ?_
 refine l_m rfl ?_
 refine l_splitd (d := 7) rfl (fun hg7 => ?_) (fun hg7 => ?_)
 ·skip
  refine l_x rfl (x_fieldAddr rfl Tryz.runUnderlying26 rfl Tryz.sizeOf24 (by decide)) ?_
  refine l_x rfl (x_load rfl (ld_blk (S2.blk 0 rfl) Tryz.isAgg24 rfl)) ?_
  refine l_x rfl (x_len (hA.2.le S2.le) rfl Tryz.runUnderlying24) ?_
  refine l_x rfl (x_leq rfl rfl) ?_
  refine l_x rfl (x_pick_t rfl rfl) ?_
  refine l_a rfl ?_
  refine l_nil ?_
  refine r_ret (rs := [.tmp 2]) [_] Tryz.func26 rfl ⟨rfl, trivial⟩ ?_
  exact ⟨congrArg Value.bool (by unfold plainB; first | (apply decE; omega) | (apply decF; omega)), S2.le⟩
 refine l_pass rfl ?_
 refine l_pass rfl ?_
 refine l_pass rfl ?_
 refine l_pass rfl ?_
 refine l_x rfl (x_pick_f rfl rfl) ?_
 refine l_a rfl ?_
 refine l_nil ?_
 refine r_ret (rs := [.tmp 2]) [_] Tryz.func26 rfl ⟨rfl, trivial⟩ ?_
 exact ⟨congrArg Value.bool (by unfold plainB; first | (apply decE; omega) | (apply decF; omega)), S2.le⟩

theorem c_few (rs : List Rw) (vl : Value) (w : World) (hD : DsR 26 3 w vl rs) :
  Cl Tryz.prog 25 #[vl] w fun v w' => v = .bool (fewB (dl rs)) ∧ Le w w' := by
 have hml := hD.lm
 refine fn_of_run (args := [_]) 23 Tryz.func25 rfl rfl rfl fun cs => ?_
 have S := Own.start (X := nob) w
 refine r_seq ?_
 refine r_region ?_
 refine l_a rfl ?_
 refine l_nil ?_
 refine r_seq ?_
 refine r_seq ?_
 refine r_region ?_
 refine l_a rfl ?_
 refine l_nil ?_
 refine r_block ?_
 refine r_loop (G := Nat) (fun i => rs.length - i) (fun i => [(0, vl), (3, .int .i64 i)]) (fun i w' => (i ≤ rs.length) ∧ (∀ x ∈ rs.take i, plainB x.1 = true) ∧ Own nob w w' []) 0 ⟨rfl, rfl, trivial⟩ ⟨Nat.zero_le _, by simp, S⟩ ?_
 rintro i ρ w1 ⟨hi, hp, S1⟩ IH
 refine r_seq ?_
 refine r_seq ?_
 refine r_region ?_
 refine l_m rfl ?_
 refine l_m rfl ?_
 refine l_x rfl (x_len (hD.rd.le S1.le) rfl Tryz.runUnderlying23) ?_
 refine l_x rfl (x_lss rfl rfl) ?_
 refine l_m rfl ?_
 refine l_splitd (d := 8) rfl (fun hg8 => ?_) (fun hg8 => ?_)
 ·skip
  obtain ⟨a, ha⟩ : ∃ x, rs[i]? = some x := ⟨_, List.getElem?_eq_getElem (by omega)⟩
  have ham := List.mem_of_getElem? ha
  refine l_m rfl ?_
  refine l_x rfl (x_leq rfl rfl) ?_
  refine l_x rfl (x_pick_t rfl rfl) ?_
  refine l_nil ?_
  refine r_ifd rfl (fun hc11 => ?_) (fun hc11 => ?_)
  ·skip
   refine r_skip ?_
   refine r_seq ?_
   refine r_block ?_
   refine r_seq ?_
   refine r_region ?_
   refine l_m rfl ?_
   refine l_m rfl ?_
   refine l_index ED rfl (hD.rd.le S1.le) rfl rfl Tryz.runUnderlying23 Tryz.sizeOf26 (by omega) ha ?_
   intro b1 o2 hat3 row4
   refine l_x rfl (x_load rfl (ld_row Tryz.isAgg26 Tryz.sizeOf26 rfl row4)) ?_
   refine l_call [] [] [_] rfl rfl Tryz.call26 rfl (c_plain a _ ((hD.sub a ham).le S1.le)) ?_
   rintro _ w5 ⟨rfl, hl7⟩
   have S6 := S1.step hl7
   refine l_x rfl (x_not rfl) ?_
   refine l_nil ?_
   refine r_if rfl (fun hc19 => ?_) (fun hc19 => ?_)
   ·skip
    refine r_seq ?_
    refine r_region ?_
    refine l_a rfl ?_
    refine l_nil ?_
    refine r_ret (rs := [.tmp 2]) [_] Tryz.func25 rfl ⟨rfl, trivial⟩ ?_
    exact ⟨congrArg Value.bool (few_no ha (by simpa using hc19)).symm, S6.le⟩
   refine r_skip ?_
   refine r_inBlock ?_
   refine r_region ?_
   refine l_m rfl ?_
   refine l_x rfl (x_add rfl rfl (by omega)) ?_
   refine l_a rfl ?_
   refine l_nil ?_
   exact IH (i + 1) _ _ (by omega) ⟨rfl, rfl, trivial⟩ ⟨by omega, all_step3 hp ha (by simpa using hc19), S6⟩
  refine r_exit rfl ?_
  refine r_seq ?_
  refine r_region ?_
  refine l_m rfl ?_
  refine l_x rfl (x_len (hD.rd.le S1.le) rfl Tryz.runUnderlying23) ?_
  refine l_x rfl (x_leq rfl rfl) ?_
  refine l_a rfl ?_
  refine l_nil ?_
  refine r_ret (rs := [.tmp 2]) [_] Tryz.func25 rfl ⟨rfl, trivial⟩ ?_
  exact ⟨congrArg Value.bool (by first | (rw [few_yes (by rw [List.take_of_length_le (by omega)] at hp; exact hp)]; exact decE (by omega)) | (rw [few_many (by rw [dl_len]; omega)]; exact decide_eq_false (by omega))), S1.le⟩
 refine l_pass rfl ?_
 refine l_pass rfl ?_
 refine l_x rfl (x_pick_f rfl rfl) ?_
 refine l_nil ?_
 refine r_false rfl ?_
 refine r_exit rfl ?_
 refine r_seq ?_
 refine r_region ?_
 refine l_m rfl ?_
 refine l_x rfl (x_len (hD.rd.le S1.le) rfl Tryz.runUnderlying23) ?_
 refine l_x rfl (x_leq rfl rfl) ?_
 refine l_a rfl ?_
 refine l_nil ?_
 refine r_ret (rs := [.tmp 2]) [_] Tryz.func25 rfl ⟨rfl, trivial⟩ ?_
 exact ⟨congrArg Value.bool (by first | (rw [few_yes (by rw [List.take_of_length_le (by omega)] at hp; exact hp)]; exact decE (by omega)) | (rw [few_many (by rw [dl_len]; omega)]; exact decide_eq_false (by omega))), S1.le⟩

end Go.Proofs

namespace Go.Proofs
open Go Go.Vk Go.Vk.Flow

open Go.ChangeShapes Go.WideShapes Go.RowKit Go.Joins Go.Vk.Deed
theorem ownT : ownKnob Tryz.prog.godebug = none := by kernel_rfl
theorem laidT : laidOutB Tryz.prog = true := by kernel_rfl
theorem headsT : (Tryz.prog.mayEnter && (false == Tryz.prog.liftsFinal) && (Tryz.prog.make == some .cut)) = true := by kernel_rfl
theorem mayT : Tryz.prog.mayEnter = true := by
 have h := headsT
 rw [Bool.and_eq_true, Bool.and_eq_true] at h
 exact h.1.1
theorem liftT : Tryz.prog.liftsFinal = false := by
 have h := headsT
 rw [Bool.and_eq_true, Bool.and_eq_true] at h
 exact (beq_iff_eq.1 h.1.2).symm
theorem makeT : Tryz.prog.make = some .cut := by
 have h := headsT
 rw [Bool.and_eq_true, Bool.and_eq_true] at h
 exact beq_iff_eq.1 h.2
theorem cellsD : Tryz.prog.cellsOf 26 = 11 := by kernel_rfl
theorem deedT : ∃ fs, DeedT Tryz.prog 26 3 5 24 fs := by
 refine ⟨_, Tryz.underlying26, Tryz.underlying3, Tryz.underlying5, Tryz.underlying24, cellsI, by kernel_rfl, by kernel_rfl, fun i hi => ?_⟩
 match i, hi with
 | 0, _ => exact ⟨_, rfl, rfl, rfl⟩
 | 1, _ => exact ⟨_, rfl, rfl, rfl⟩
 | 2, _ => exact ⟨_, rfl, rfl, rfl⟩
 | 3, _ => exact ⟨_, rfl, rfl, rfl⟩
 | 4, _ => exact ⟨_, rfl, rfl, rfl⟩
 | 5, _ => exact ⟨_, rfl, rfl, rfl⟩
 | 6, _ => exact ⟨_, rfl, rfl, rfl⟩
 | 7, _ => exact ⟨_, rfl, rfl, rfl⟩
 | 8, _ => exact ⟨_, rfl, rfl, rfl⟩
 | 9, _ => exact ⟨_, rfl, rfl, rfl⟩
 | 10, _ => exact ⟨_, rfl, rfl, rfl⟩
section
variable {H : Type} {enc : TypeId × Value → H} {W : World} {base : Nat} {sp : Nat → Bool} {held : Bool} {r : Reach} {b0 : Nat}
set_option maxRecDepth 100000 in
theorem openDeeds {v : Value} {d : DataW H} {p : List MemPlace} (hv : Value.okWide Tryz.prog W r b0 23 v) (h : DataW.Trod enc Tryz.prog W base sp held 23 v d p) : ∃ rs, DsR 26 3 W v rs ∧ rs.length ≤ maxLen := by
 obtain ⟨a, len, cap, rfl⟩ := okWide_slice Tryz.underlying23 hv
 obtain ⟨fuel, hf⟩ := h
 obtain ⟨fs, hT⟩ := deedT
 exact open_deeds hT cellsD Tryz.underlying23 hf
end

end Go.Proofs

namespace Go.Proofs
open Go Go.Vk Go.Vk.Flow

open Go.Vk.Deed
def regR : List Rw := [(⟨1, 0, 0, 1, 0, 1, 5040, 0, 0, [], []⟩, (none, 0, 0), (none, 0, 0)), (⟨2, 0, 0, 1, 0, 2, 10080, 0, 0, [], []⟩, (none, 0, 0), (none, 0, 0)), (⟨3, 5, 5, 2, 2, 1, 2520, 0, 0, [], []⟩, (none, 0, 0), (none, 0, 0)), (⟨4, 6, 9, 4, 1, 3, 5040, 20, 0, [], []⟩, (none, 0, 0), (none, 0, 0)), (⟨5, 7, 9, 5, 2, 4, 7000, 0, 0, [], []⟩, (none, 0, 0), (none, 0, 0)), (⟨6, 8, 30, 2, 2, 3, 1000, 0, 0, [], []⟩, (none, 0, 0), (none, 0, 0)), (⟨7, 0, 40, 8, 0, 0, 0, 0, 3, [], []⟩, (none, 0, 0), (none, 0, 0)), (⟨8, 25, 50, 7, 0, 0, 0, 0, 5, [], []⟩, (none, 0, 0), (none, 0, 0))]
theorem regR_dl : dl regR = reg := rfl
theorem dsr_reg {w : World} {v : Value} (h : Rd ED w v regR) : DsR 26 3 w v regR := ⟨h, fun a ha => by
 have : a.1.heirs = [] ∧ a.1.shares = [] ∧ a.2 = ((none, 0, 0), (none, 0, 0)) := by revert a; decide
 obtain ⟨h1, h2, h3⟩ := this
 obtain ⟨x, y⟩ := a
 simp only at h1 h2 h3
 subst h3
 exact ⟨h1 ▸ rd_nil, h2 ▸ rd_nil, by rw [h1]; exact Nat.zero_le _, by rw [h2]; exact Nat.zero_le _⟩, by decide⟩
theorem asc_id {l : List Int} (h : l.Pairwise (· ≤ ·)) : asc l = l := asc_eq (.refl _) h
theorem e_idle : idleD reg 30 = [6] := by rw [idleD, reg_idle0]; exact asc_id (by decide)
theorem e_lin : lineageD reg 30 7 3 = [1, 2, 3, 4] := by
 rw [lineageD, if_pos (by decide +kernel), reg_lin]
 exact asc_id (by decide +kernel)
theorem e_app (p : Int) (h : p = 7001 ∨ p = 7000) : appendD reg ⟨9, 30, 50, 2, 4, 1, p, 0, 0, [], []⟩ = (0, reg ++ [⟨9, 30, 50, 2, 4, 1, p, 0, 0, [], []⟩]) := by
 rcases h with rfl | rfl <;> decide +kernel
theorem e_poss1 : possD reg 50 ⟨9, 30, 50, 2, 4, 1, 7001, 0, 0, [], []⟩ = 20 := by
 have h : idleD (reg ++ [⟨9, 30, 50, 2, 4, 1, 7001, 0, 0, [], []⟩]) 50 = [9] := by rw [idleD, reg_poss1]; exact asc_id (by decide)
 rw [possD, e_app _ (.inl rfl), if_neg (by simp), h, if_pos (by simp)]
theorem e_poss2 : possD reg 50 ⟨9, 30, 50, 2, 4, 1, 7000, 0, 0, [], []⟩ = 0 := by
 have h : idleD (reg ++ [⟨9, 30, 50, 2, 4, 1, 7000, 0, 0, [], []⟩]) 50 = [] := by rw [idleD, reg_poss2]; exact asc_id .nil
 rw [possD, e_app _ (.inr rfl), if_neg (by simp), h, if_neg (by simp)]
theorem sub_nil (w : World) (x : D) (h1 : x.heirs = []) (h2 : x.shares = []) : SubR 3 w (x, (none, 0, 0), (none, 0, 0)) := ⟨h1 ▸ rd_nil, h2 ▸ rd_nil, by rw [h1]; exact Nat.zero_le _, by rw [h2]; exact Nat.zero_le _⟩

set_option maxHeartbeats 2000000 in
theorem c_register  (w : World) :
  Cl Tryz.prog 81 #[] w fun v w' => New w w' (vec ED v regR) ∧ Le w w' := by
 refine fn_of_run (args := []) 10 Tryz.func81 rfl rfl rfl fun cs => ?_
 have S := Own.start (X := nob) w
 refine r_seq ?_
 refine r_region ?_
 refine l_a rfl ?_
 refine l_nil ?_
 refine r_seq ?_
 refine r_region ?_
 refine l_x rfl (x_buildS (out := [_, _, _, _, _, _, _, _, _, _, _]) (ss := [1, 1, 1, 1, 1, 1, 1, 1, 1, 1, 1]) Tryz.zeroValue26 rfl Tryz.runUnderlying26 ⟨Tryz.sizeOf3, Tryz.sizeOf3, Tryz.sizeOf3, Tryz.sizeOf5, Tryz.sizeOf3, Tryz.sizeOf3, Tryz.sizeOf3, Tryz.sizeOf3, Tryz.sizeOf3, Tryz.sizeOf24, Tryz.sizeOf24, trivial⟩ (fill_cons rfl rfl rfl (Nat.le_of_ble_eq_true rfl) (fill_cons rfl rfl rfl (Nat.le_of_ble_eq_true rfl) (fill_cons rfl rfl rfl (Nat.le_of_ble_eq_true rfl) (fill_cons rfl rfl rfl (Nat.le_of_ble_eq_true rfl) fill_nil))))) ?_
 refine l_x rfl (x_buildS (out := [_, _, _, _, _, _, _, _, _, _, _]) (ss := [1, 1, 1, 1, 1, 1, 1, 1, 1, 1, 1]) Tryz.zeroValue26 rfl Tryz.runUnderlying26 ⟨Tryz.sizeOf3, Tryz.sizeOf3, Tryz.sizeOf3, Tryz.sizeOf5, Tryz.sizeOf3, Tryz.sizeOf3, Tryz.sizeOf3, Tryz.sizeOf3, Tryz.sizeOf3, Tryz.sizeOf24, Tryz.sizeOf24, trivial⟩ (fill_cons rfl rfl rfl (Nat.le_of_ble_eq_true rfl) (fill_cons rfl rfl rfl (Nat.le_of_ble_eq_true rfl) (fill_cons rfl rfl rfl (Nat.le_of_ble_eq_true rfl) (fill_cons rfl rfl rfl (Nat.le_of_ble_eq_true rfl) fill_nil))))) ?_
 refine l_x rfl (x_buildS (out := [_, _, _, _, _, _, _, _, _, _, _]) (ss := [1, 1, 1, 1, 1, 1, 1, 1, 1, 1, 1]) Tryz.zeroValue26 rfl Tryz.runUnderlying26 ⟨Tryz.sizeOf3, Tryz.sizeOf3, Tryz.sizeOf3, Tryz.sizeOf5, Tryz.sizeOf3, Tryz.sizeOf3, Tryz.sizeOf3, Tryz.sizeOf3, Tryz.sizeOf3, Tryz.sizeOf24, Tryz.sizeOf24, trivial⟩ (fill_cons rfl rfl rfl (Nat.le_of_ble_eq_true rfl) (fill_cons rfl rfl rfl (Nat.le_of_ble_eq_true rfl) (fill_cons rfl rfl rfl (Nat.le_of_ble_eq_true rfl) (fill_cons rfl rfl rfl (Nat.le_of_ble_eq_true rfl) (fill_cons rfl rfl rfl (Nat.le_of_ble_eq_true rfl) (fill_cons rfl rfl rfl (Nat.le_of_ble_eq_true rfl) (fill_cons rfl rfl rfl (Nat.le_of_ble_eq_true rfl) fill_nil)))))))) ?_
 refine l_x rfl (x_buildS (out := [_, _, _, _, _, _, _, _, _, _, _]) (ss := [1, 1, 1, 1, 1, 1, 1, 1, 1, 1, 1]) Tryz.zeroValue26 rfl Tryz.runUnderlying26 ⟨Tryz.sizeOf3, Tryz.sizeOf3, Tryz.sizeOf3, Tryz.sizeOf5, Tryz.sizeOf3, Tryz.sizeOf3, Tryz.sizeOf3, Tryz.sizeOf3, Tryz.sizeOf3, Tryz.sizeOf24, Tryz.sizeOf24, trivial⟩ (fill_cons rfl rfl rfl (Nat.le_of_ble_eq_true rfl) (fill_cons rfl rfl rfl (Nat.le_of_ble_eq_true rfl) (fill_cons rfl rfl rfl (Nat.le_of_ble_eq_true rfl) (fill_cons rfl rfl rfl (Nat.le_of_ble_eq_true rfl) (fill_cons rfl rfl rfl (Nat.le_of_ble_eq_true rfl) (fill_cons rfl rfl rfl (Nat.le_of_ble_eq_true rfl) (fill_cons rfl rfl rfl (Nat.le_of_ble_eq_true rfl) (fill_cons rfl rfl rfl (Nat.le_of_ble_eq_true rfl) fill_nil))))))))) ?_
 refine l_x rfl (x_buildS (out := [_, _, _, _, _, _, _, _, _, _, _]) (ss := [1, 1, 1, 1, 1, 1, 1, 1, 1, 1, 1]) Tryz.zeroValue26 rfl Tryz.runUnderlying26 ⟨Tryz.sizeOf3, Tryz.sizeOf3, Tryz.sizeOf3, Tryz.sizeOf5, Tryz.sizeOf3, Tryz.sizeOf3, Tryz.sizeOf3, Tryz.sizeOf3, Tryz.sizeOf3, Tryz.sizeOf24, Tryz.sizeOf24, trivial⟩ (fill_cons rfl rfl rfl (Nat.le_of_ble_eq_true rfl) (fill_cons rfl rfl rfl (Nat.le_of_ble_eq_true rfl) (fill_cons rfl rfl rfl (Nat.le_of_ble_eq_true rfl) (fill_cons rfl rfl rfl (Nat.le_of_ble_eq_true rfl) (fill_cons rfl rfl rfl (Nat.le_of_ble_eq_true rfl) (fill_cons rfl rfl rfl (Nat.le_of_ble_eq_true rfl) (fill_cons rfl rfl rfl (Nat.le_of_ble_eq_true rfl) fill_nil)))))))) ?_
 refine l_x rfl (x_buildS (out := [_, _, _, _, _, _, _, _, _, _, _]) (ss := [1, 1, 1, 1, 1, 1, 1, 1, 1, 1, 1]) Tryz.zeroValue26 rfl Tryz.runUnderlying26 ⟨Tryz.sizeOf3, Tryz.sizeOf3, Tryz.sizeOf3, Tryz.sizeOf5, Tryz.sizeOf3, Tryz.sizeOf3, Tryz.sizeOf3, Tryz.sizeOf3, Tryz.sizeOf3, Tryz.sizeOf24, Tryz.sizeOf24, trivial⟩ (fill_cons rfl rfl rfl (Nat.le_of_ble_eq_true rfl) (fill_cons rfl rfl rfl (Nat.le_of_ble_eq_true rfl) (fill_cons rfl rfl rfl (Nat.le_of_ble_eq_true rfl) (fill_cons rfl rfl rfl (Nat.le_of_ble_eq_true rfl) (fill_cons rfl rfl rfl (Nat.le_of_ble_eq_true rfl) (fill_cons rfl rfl rfl (Nat.le_of_ble_eq_true rfl) (fill_cons rfl rfl rfl (Nat.le_of_ble_eq_true rfl) fill_nil)))))))) ?_
 refine l_x rfl (x_buildS (out := [_, _, _, _, _, _, _, _, _, _, _]) (ss := [1, 1, 1, 1, 1, 1, 1, 1, 1, 1, 1]) Tryz.zeroValue26 rfl Tryz.runUnderlying26 ⟨Tryz.sizeOf3, Tryz.sizeOf3, Tryz.sizeOf3, Tryz.sizeOf5, Tryz.sizeOf3, Tryz.sizeOf3, Tryz.sizeOf3, Tryz.sizeOf3, Tryz.sizeOf3, Tryz.sizeOf24, Tryz.sizeOf24, trivial⟩ (fill_cons rfl rfl rfl (Nat.le_of_ble_eq_true rfl) (fill_cons rfl rfl rfl (Nat.le_of_ble_eq_true rfl) (fill_cons rfl rfl rfl (Nat.le_of_ble_eq_true rfl) (fill_cons rfl rfl rfl (Nat.le_of_ble_eq_true rfl) fill_nil))))) ?_
 refine l_x rfl (x_buildS (out := [_, _, _, _, _, _, _, _, _, _, _]) (ss := [1, 1, 1, 1, 1, 1, 1, 1, 1, 1, 1]) Tryz.zeroValue26 rfl Tryz.runUnderlying26 ⟨Tryz.sizeOf3, Tryz.sizeOf3, Tryz.sizeOf3, Tryz.sizeOf5, Tryz.sizeOf3, Tryz.sizeOf3, Tryz.sizeOf3, Tryz.sizeOf3, Tryz.sizeOf3, Tryz.sizeOf24, Tryz.sizeOf24, trivial⟩ (fill_cons rfl rfl rfl (Nat.le_of_ble_eq_true rfl) (fill_cons rfl rfl rfl (Nat.le_of_ble_eq_true rfl) (fill_cons rfl rfl rfl (Nat.le_of_ble_eq_true rfl) (fill_cons rfl rfl rfl (Nat.le_of_ble_eq_true rfl) (fill_cons rfl rfl rfl (Nat.le_of_ble_eq_true rfl) fill_nil)))))) ?_
 refine l_buildSlice ED [(⟨1, 0, 0, 1, 0, 1, 5040, 0, 0, [], []⟩, (none, 0, 0), (none, 0, 0)), (⟨2, 0, 0, 1, 0, 2, 10080, 0, 0, [], []⟩, (none, 0, 0), (none, 0, 0)), (⟨3, 5, 5, 2, 2, 1, 2520, 0, 0, [], []⟩, (none, 0, 0), (none, 0, 0)), (⟨4, 6, 9, 4, 1, 3, 5040, 20, 0, [], []⟩, (none, 0, 0), (none, 0, 0)), (⟨5, 7, 9, 5, 2, 4, 7000, 0, 0, [], []⟩, (none, 0, 0), (none, 0, 0)), (⟨6, 8, 30, 2, 2, 3, 1000, 0, 0, [], []⟩, (none, 0, 0), (none, 0, 0)), (⟨7, 0, 40, 8, 0, 0, 0, 0, 3, [], []⟩, (none, 0, 0), (none, 0, 0)), (⟨8, 25, 50, 7, 0, 0, 0, 0, 5, [], []⟩, (none, 0, 0), (none, 0, 0))] S rfl Tryz.runUnderlying23 Tryz.sizeOf26 Tryz.zeroValue26 rfl ⟨rfl, rfl, rfl, rfl, rfl, rfl, rfl, rfl, rfl, rfl, rfl, rfl, rfl, rfl, rfl, rfl, trivial⟩ (Nat.le_of_ble_eq_true rfl) ?_
 intro v4 w1 S2 hl3
 refine l_a rfl ?_
 refine l_nil ?_
 refine r_ret (rs := [.tmp 0]) [_] Tryz.func81 rfl ⟨rfl, trivial⟩ ?_
 exact ⟨S2.new 0 rfl, S2.le⟩

set_option maxHeartbeats 4000000 in
theorem c_enteredX  (w : World) :
  Cl Tryz.prog 23 #[] w fun v w' => v = .bool true ∧ Le w w' := by
 refine fn_of_run (args := []) 119 Tryz.func23 rfl rfl rfl fun cs => ?_
 have S := Own.start (X := nob) w
 refine r_seq ?_
 refine r_region ?_
 refine l_a rfl ?_
 refine l_nil ?_
 refine r_seq ?_
 refine r_region ?_
 refine l_call [] [] [] rfl rfl Tryz.call81 rfl (c_register _) ?_
 rintro v101 w1 ⟨hN101, hl101⟩
 have S2 := S.add hl101 hN101
 refine l_a rfl ?_
 refine l_nil ?_
 refine r_seq ?_
 refine r_region ?_
 refine l_m rfl ?_
 refine l_call [] [] [_] rfl rfl Tryz.call21 rfl ((c_Check regR _ _ (dsr_reg (vec_rd (S2.at 0 rfl)))).mono (fun v w' h => (⟨h.1.trans (by rw [regR_dl, reg_chk]), h.2⟩ : v = .tuple #[.int .i64 0, .int .i64 0] ∧ Le _ w'))) ?_
 rintro _ w3 ⟨rfl, hl5⟩
 have S4 := S2.step hl5
 refine l_m rfl ?_
 refine l_x rfl (x_extract rfl rfl) ?_
 refine l_x rfl (x_extract rfl rfl) ?_
 refine l_a rfl ?_
 refine l_a rfl ?_
 refine l_nil ?_
 refine r_seq ?_
 refine r_region ?_
 refine l_m rfl ?_
 refine l_call [] [] [_, _, _, _] rfl rfl Tryz.call55 rfl ((c_AccountOf regR _ 30 7 2 _ (dsr_reg (vec_rd (S4.at 0 rfl)))).mono (fun v w' h => (⟨h.1.trans (by rw [regR_dl, reg_acc]), h.2⟩ : v = .agg (encAc ⟨2, 7560, 7000, 0, 0⟩).toArray ∧ Le _ w'))) ?_
 rintro _ w6 ⟨rfl, hl8⟩
 have S7 := S4.step hl8
 refine l_alloc S7 rfl Tryz.zeroValue66 rfl ?_
 intro b12 w9 S10 hl11
 refine l_stores S10 1 rfl rfl rfl rfl (EAC.one _) Tryz.sizeOf66 (by first | exact Nat.le_refl _ | simp) (splice_all rfl) ?_
 intro w13 S14 hk15
 refine l_nil ?_
 refine r_seq ?_
 refine r_region ?_
 refine l_m rfl ?_
 refine l_call [] [] [_, _, _, _] rfl rfl Tryz.call29 rfl ((c_Source regR _ 50 30 4 _ (dsr_reg (vec_rd (S14.at 0 rfl)))).mono (fun v w' h => (by rw [regR_dl, reg_source] at h; exact h : ∃ v1 v2, v = .tuple #[v1, v2] ∧ Own nob _ w' [vec EI v1 [2], vec EI v2 [7000]]))) ?_
 rintro _ w16 ⟨s1, s2, rfl, h18⟩
 have S17 := S14.join h18
 refine l_m rfl ?_
 refine l_x rfl (x_extract rfl rfl) ?_
 refine l_x rfl (x_extract rfl rfl) ?_
 refine l_a rfl ?_
 refine l_a rfl ?_
 refine l_nil ?_
 refine r_seq ?_
 refine r_seq ?_
 refine r_region ?_
 refine l_m rfl ?_
 refine l_x rfl (x_neq rfl rfl) ?_
 refine l_m rfl ?_
 refine l_splitd (d := 25) rfl (fun hg25 => ?_) (fun hg25 => ?_)
 ·exact absurd rfl hg25
 refine l_m rfl ?_
 refine l_x rfl (x_len (vec_rd (S17.at 2 rfl)) rfl Tryz.runUnderlying24) ?_
 refine l_x rfl (x_neq rfl rfl) ?_
 refine l_x rfl (x_pick_f rfl rfl) ?_
 refine l_m rfl ?_
 refine l_splitd (d := 30) rfl (fun hg30 => ?_) (fun hg30 => ?_)
 ·exact absurd rfl hg30
 refine l_m rfl ?_
 refine l_x rfl (x_len (vec_rd (S17.at 3 rfl)) rfl Tryz.runUnderlying24) ?_
 refine l_x rfl (x_neq rfl rfl) ?_
 refine l_x rfl (x_pick_f rfl rfl) ?_
 refine l_m rfl ?_
 refine l_splitd (d := 35) rfl (fun hg35 => ?_) (fun hg35 => ?_)
 ·exact absurd rfl hg35
 refine l_m rfl ?_
 refine l_index EI rfl (vec_rd (S17.at 2 rfl)) rfl rfl Tryz.runUnderlying24 Tryz.sizeOf3 (by omega) rfl ?_
 intro b19 o20 hat21 row22
 refine l_x rfl (x_load rfl (ld_cell Tryz.isAgg3 (row22 0 _ rfl))) ?_
 refine l_x rfl (x_neq rfl rfl) ?_
 refine l_x rfl (x_pick_f rfl rfl) ?_
 refine l_m rfl ?_
 refine l_splitd (d := 41) rfl (fun hg41 => ?_) (fun hg41 => ?_)
 ·exact absurd rfl hg41
 refine l_m rfl ?_
 refine l_index EI rfl (vec_rd (S17.at 3 rfl)) rfl rfl Tryz.runUnderlying24 Tryz.sizeOf3 (by omega) rfl ?_
 intro b23 o24 hat25 row26
 refine l_x rfl (x_load rfl (ld_cell Tryz.isAgg3 (row26 0 _ rfl))) ?_
 refine l_x rfl (x_neq rfl rfl) ?_
 refine l_x rfl (x_pick_f rfl rfl) ?_
 refine l_m rfl ?_
 refine l_splitd (d := 47) rfl (fun hg47 => ?_) (fun hg47 => ?_)
 ·exact absurd rfl hg47
 refine l_x rfl (x_fieldAddr rfl Tryz.runUnderlying66 rfl Tryz.sizeOf3 (by decide)) ?_
 refine l_x rfl (x_load rfl (ld_blk (S17.blk 1 rfl) Tryz.isAgg3 rfl)) ?_
 refine l_x rfl (x_neq rfl rfl) ?_
 refine l_x rfl (x_pick_f rfl rfl) ?_
 refine l_m rfl ?_
 refine l_splitd (d := 52) rfl (fun hg52 => ?_) (fun hg52 => ?_)
 ·exact absurd rfl hg52
 refine l_x rfl (x_fieldAddr rfl Tryz.runUnderlying66 rfl Tryz.sizeOf3 (by decide)) ?_
 refine l_x rfl (x_load rfl (ld_blk (S17.blk 1 rfl) Tryz.isAgg3 rfl)) ?_
 refine l_x rfl (x_neq rfl rfl) ?_
 refine l_x rfl (x_pick_f rfl rfl) ?_
 refine l_nil ?_
 refine r_ifd rfl (fun hc56 => ?_) (fun hc56 => ?_)
 ·exact absurd rfl hc56
 refine r_skip ?_
 refine r_seq ?_
 refine r_region ?_
 refine l_m rfl ?_
 refine l_call [] [] [_, _, _, _] rfl rfl Tryz.call36 rfl ((c_Uses regR _ 30 7 1 _ (dsr_reg (vec_rd (S17.at 0 rfl)))).mono (fun v w' h => (⟨h.1.trans (by rw [regR_dl, reg_uses1]), h.2⟩ : v = .int .i64 2520 ∧ Le _ w'))) ?_
 rintro _ w27 ⟨rfl, hl29⟩
 have S28 := S17.step hl29
 refine l_x rfl (x_eql rfl rfl) ?_
 refine l_m rfl ?_
 refine l_splitd (d := 60) rfl (fun hg60 => ?_) (fun hg60 => ?_)
 ·skip
  refine l_m rfl ?_
  refine l_call [] [] [_, _, _, _] rfl rfl Tryz.call36 rfl ((c_Uses regR _ 30 7 3 _ (dsr_reg (vec_rd (S28.at 0 rfl)))).mono (fun v w' h => (⟨h.1.trans (by rw [regR_dl, reg_uses2]), h.2⟩ : v = .int .i64 5040 ∧ Le _ w'))) ?_
  rintro _ w30 ⟨rfl, hl32⟩
  have S31 := S28.step hl32
  refine l_x rfl (x_eql rfl rfl) ?_
  refine l_x rfl (x_pick_t rfl rfl) ?_
  refine l_m rfl ?_
  refine l_splitd (d := 65) rfl (fun hg65 => ?_) (fun hg65 => ?_)
  ·skip
   refine l_m rfl ?_
   refine l_call [] [] [_, _, _, _] rfl rfl Tryz.call36 rfl ((c_Uses regR _ 30 21 1 _ (dsr_reg (vec_rd (S31.at 0 rfl)))).mono (fun v w' h => (⟨h.1.trans (by rw [regR_dl, reg_uses3]), h.2⟩ : v = .int .i64 7560 ∧ Le _ w'))) ?_
   rintro _ w33 ⟨rfl, hl35⟩
   have S34 := S31.step hl35
   refine l_x rfl (x_eql rfl rfl) ?_
   refine l_x rfl (x_pick_t rfl rfl) ?_
   refine l_m rfl ?_
   refine l_splitd (d := 70) rfl (fun hg70 => ?_) (fun hg70 => ?_)
   ·skip
    refine l_m rfl ?_
    refine l_call [] [] [_, _, _, _] rfl rfl Tryz.call56 rfl ((c_Free regR _ 40 8 2 _ (dsr_reg (vec_rd (S34.at 0 rfl)))).mono (fun v w' h => (⟨h.1.trans (by rw [regR_dl, reg_free]), h.2⟩ : v = .int .i64 2080 ∧ Le _ w'))) ?_
    rintro _ w36 ⟨rfl, hl38⟩
    have S37 := S34.step hl38
    refine l_x rfl (x_eql rfl rfl) ?_
    refine l_x rfl (x_pick_t rfl rfl) ?_
    refine l_m rfl ?_
    refine l_splitd (d := 75) rfl (fun hg75 => ?_) (fun hg75 => ?_)
    ·skip
     refine l_m rfl ?_
     refine l_call [] [] [_, _, _] rfl rfl Tryz.call24 rfl ((c_Total regR _ 50 0 _ (dsr_reg (vec_rd (S37.at 0 rfl)))).mono (fun v w' h => (⟨h.1.trans (by rw [regR_dl, reg_total]), h.2⟩ : v = .int .i64 15120 ∧ Le _ w'))) ?_
     rintro _ w39 ⟨rfl, hl41⟩
     have S40 := S37.step hl41
     refine l_x rfl (x_eql rfl rfl) ?_
     refine l_x rfl (x_pick_t rfl rfl) ?_
     refine l_a rfl ?_
     refine l_nil ?_
     refine r_seq ?_
     refine r_region ?_
     refine l_m rfl ?_
     refine l_call [] [] [_, _] rfl rfl Tryz.call51 rfl ((c_Idle regR _ 30 _ (dsr_reg (vec_rd (S40.at 0 rfl)))).mono (fun v w' h => (by rw [regR_dl, e_idle] at h; exact h : New _ w' (vec EI v [6]) ∧ Le _ w'))) ?_
     rintro v8142 w42 ⟨hN8142, hl8142⟩
     have S43 := S40.add hl8142 hN8142
     refine l_buildSlice EI [6] S43 rfl Tryz.runUnderlying24 Tryz.sizeOf3 Tryz.zeroValue3 rfl ⟨rfl, rfl, trivial⟩ (Nat.le_of_ble_eq_true rfl) ?_
     intro v47 w44 S45 hl46
     refine l_call [] [] [_, _] rfl rfl Tryz.call31 rfl ((c_SameInts _ _ _ _ (by decide) _ (vec_rd (S45.at 4 rfl)) (vec_rd (S45.at 5 rfl))).mono (fun v w' h => (⟨h.1.trans (congrArg Value.bool (decide_eq_true rfl)), h.2⟩ : v = .bool true ∧ Le _ w'))) ?_
     rintro _ w48 ⟨rfl, hl50⟩
     have S49 := S45.step hl50
     refine l_m rfl ?_
     refine l_m rfl ?_
     refine l_call [] [] [_] rfl rfl Tryz.call53 rfl ((c_Late regR _ (by decide) _ (dsr_reg (vec_rd (S49.at 0 rfl)))).mono (fun v w' h => (by rw [regR_dl, reg_late] at h; exact h : New _ w' (vec EI v [4, 5, 6, 8]) ∧ Le _ w'))) ?_
     rintro v8651 w51 ⟨hN8651, hl8651⟩
     have S52 := S49.add hl8651 hN8651
     refine l_buildSlice EI [4, 5, 6, 8] S52 rfl Tryz.runUnderlying24 Tryz.sizeOf3 Tryz.zeroValue3 rfl ⟨rfl, rfl, rfl, rfl, rfl, rfl, rfl, rfl, trivial⟩ (Nat.le_of_ble_eq_true rfl) ?_
     intro v56 w53 S54 hl55
     refine l_call [] [] [_, _] rfl rfl Tryz.call31 rfl ((c_SameInts _ _ _ _ (by decide) _ (vec_rd (S54.at 6 rfl)) (vec_rd (S54.at 7 rfl))).mono (fun v w' h => (⟨h.1.trans (congrArg Value.bool (decide_eq_true rfl)), h.2⟩ : v = .bool true ∧ Le _ w'))) ?_
     rintro _ w57 ⟨rfl, hl59⟩
     have S58 := S54.step hl59
     refine l_x rfl (x_pick_t rfl rfl) ?_
     refine l_m rfl ?_
     refine l_m rfl ?_
     refine l_call [] [] [_, _, _, _] rfl rfl Tryz.call44 rfl ((c_Lineage regR _ 30 7 3 _ (dsr_reg (vec_rd (S58.at 0 rfl)))).mono (fun v w' h => (by rw [regR_dl, e_lin] at h; exact h : New _ w' (vec EI v [1, 2, 3, 4]) ∧ Le _ w'))) ?_
     rintro v9260 w60 ⟨hN9260, hl9260⟩
     have S61 := S58.add hl9260 hN9260
     refine l_buildSlice EI [1, 2, 3, 4] S61 rfl Tryz.runUnderlying24 Tryz.sizeOf3 Tryz.zeroValue3 rfl ⟨rfl, rfl, rfl, rfl, rfl, rfl, rfl, rfl, trivial⟩ (Nat.le_of_ble_eq_true rfl) ?_
     intro v65 w62 S63 hl64
     refine l_call [] [] [_, _] rfl rfl Tryz.call31 rfl ((c_SameInts _ _ _ _ (by decide) _ (vec_rd (S63.at 8 rfl)) (vec_rd (S63.at 9 rfl))).mono (fun v w' h => (⟨h.1.trans (congrArg Value.bool (decide_eq_true rfl)), h.2⟩ : v = .bool true ∧ Le _ w'))) ?_
     rintro _ w66 ⟨rfl, hl68⟩
     have S67 := S63.step hl68
     refine l_x rfl (x_pick_t rfl rfl) ?_
     refine l_m rfl ?_
     refine l_m rfl ?_
     refine l_call [] [] [_, _, _, _] rfl rfl Tryz.call32 rfl ((c_Touched regR _ 30 40 8 _ (dsr_reg (vec_rd (S67.at 0 rfl)))).mono (fun v w' h => (by rw [regR_dl, reg_touched] at h; exact h : New _ w' (vec EI v [1, 2, 3]) ∧ Le _ w'))) ?_
     rintro v9869 w69 ⟨hN9869, hl9869⟩
     have S70 := S67.add hl9869 hN9869
     refine l_buildSlice EI [1, 2, 3] S70 rfl Tryz.runUnderlying24 Tryz.sizeOf3 Tryz.zeroValue3 rfl ⟨rfl, rfl, rfl, rfl, rfl, rfl, trivial⟩ (Nat.le_of_ble_eq_true rfl) ?_
     intro v74 w71 S72 hl73
     refine l_call [] [] [_, _] rfl rfl Tryz.call31 rfl ((c_SameInts _ _ _ _ (by decide) _ (vec_rd (S72.at 10 rfl)) (vec_rd (S72.at 11 rfl))).mono (fun v w' h => (⟨h.1.trans (congrArg Value.bool (decide_eq_true rfl)), h.2⟩ : v = .bool true ∧ Le _ w'))) ?_
     rintro _ w75 ⟨rfl, hl77⟩
     have S76 := S72.step hl77
     refine l_x rfl (x_pick_t rfl rfl) ?_
     refine l_a rfl ?_
     refine l_nil ?_
     refine r_seq ?_
     refine r_region ?_
     refine l_m rfl ?_
     refine l_x rfl (x_buildS (out := [_, _, _, _, _, _, _, _, _, _, _]) (ss := [1, 1, 1, 1, 1, 1, 1, 1, 1, 1, 1]) Tryz.zeroValue26 rfl Tryz.runUnderlying26 ⟨Tryz.sizeOf3, Tryz.sizeOf3, Tryz.sizeOf3, Tryz.sizeOf5, Tryz.sizeOf3, Tryz.sizeOf3, Tryz.sizeOf3, Tryz.sizeOf3, Tryz.sizeOf3, Tryz.sizeOf24, Tryz.sizeOf24, trivial⟩ (fill_cons rfl rfl rfl (Nat.le_of_ble_eq_true rfl) (fill_cons rfl rfl rfl (Nat.le_of_ble_eq_true rfl) (fill_cons rfl rfl rfl (Nat.le_of_ble_eq_true rfl) (fill_cons rfl rfl rfl (Nat.le_of_ble_eq_true rfl) (fill_cons rfl rfl rfl (Nat.le_of_ble_eq_true rfl) (fill_cons rfl rfl rfl (Nat.le_of_ble_eq_true rfl) (fill_cons rfl rfl rfl (Nat.le_of_ble_eq_true rfl) fill_nil)))))))) ?_
     refine l_call [] [] [_, _, _] rfl rfl Tryz.call27 rfl ((c_Possible regR _ 50 ((⟨9, 30, 50, 2, 4, 1, 7001, 0, 0, [], []⟩ : D), (none, 0, 0), (none, 0, 0)) _ (dsr_reg (vec_rd (S76.at 0 rfl))) (sub_nil _ _ rfl rfl)).mono (fun v w' h => (⟨h.1.trans (by rw [regR_dl, e_poss1]), h.2⟩ : v = .int .i64 20 ∧ Le _ w'))) ?_
     rintro _ w78 ⟨rfl, hl80⟩
     have S79 := S76.step hl80
     refine l_a rfl ?_
     refine l_nil ?_
     refine r_seq ?_
     refine r_region ?_
     refine l_m rfl ?_
     refine l_m rfl ?_
     refine l_splitd (d := 106) rfl (fun hg106 => ?_) (fun hg106 => ?_)
     ·skip
      refine l_m rfl ?_
      refine l_x rfl (x_pick_t rfl rfl) ?_
      refine l_m rfl ?_
      refine l_m rfl ?_
      refine l_x rfl (x_eql rfl rfl) ?_
      refine l_x rfl (x_pick_t rfl rfl) ?_
      refine l_m rfl ?_
      refine l_splitd (d := 113) rfl (fun hg113 => ?_) (fun hg113 => ?_)
      ·skip
       refine l_m rfl ?_
       refine l_x rfl (x_buildS (out := [_, _, _, _, _, _, _, _, _, _, _]) (ss := [1, 1, 1, 1, 1, 1, 1, 1, 1, 1, 1]) Tryz.zeroValue26 rfl Tryz.runUnderlying26 ⟨Tryz.sizeOf3, Tryz.sizeOf3, Tryz.sizeOf3, Tryz.sizeOf5, Tryz.sizeOf3, Tryz.sizeOf3, Tryz.sizeOf3, Tryz.sizeOf3, Tryz.sizeOf3, Tryz.sizeOf24, Tryz.sizeOf24, trivial⟩ (fill_cons rfl rfl rfl (Nat.le_of_ble_eq_true rfl) (fill_cons rfl rfl rfl (Nat.le_of_ble_eq_true rfl) (fill_cons rfl rfl rfl (Nat.le_of_ble_eq_true rfl) (fill_cons rfl rfl rfl (Nat.le_of_ble_eq_true rfl) (fill_cons rfl rfl rfl (Nat.le_of_ble_eq_true rfl) (fill_cons rfl rfl rfl (Nat.le_of_ble_eq_true rfl) (fill_cons rfl rfl rfl (Nat.le_of_ble_eq_true rfl) fill_nil)))))))) ?_
       refine l_call [] [] [_, _, _] rfl rfl Tryz.call27 rfl ((c_Possible regR _ 50 ((⟨9, 30, 50, 2, 4, 1, 7000, 0, 0, [], []⟩ : D), (none, 0, 0), (none, 0, 0)) _ (dsr_reg (vec_rd (S79.at 0 rfl))) (sub_nil _ _ rfl rfl)).mono (fun v w' h => (⟨h.1.trans (by rw [regR_dl, e_poss2]), h.2⟩ : v = .int .i64 0 ∧ Le _ w'))) ?_
       rintro _ w81 ⟨rfl, hl83⟩
       have S82 := S79.step hl83
       refine l_x rfl (x_eql rfl rfl) ?_
       refine l_x rfl (x_pick_t rfl rfl) ?_
       refine l_a rfl ?_
       refine l_nil ?_
       refine r_ret (rs := [.tmp 0]) [_] Tryz.func23 rfl ⟨rfl, trivial⟩ ?_
       exact ⟨rfl, S82.le⟩
      exact absurd rfl hg113
     exact absurd rfl hg106
    exact absurd rfl hg75
   exact absurd rfl hg70
  exact absurd rfl hg65
 exact absurd rfl hg60

end Go.Proofs

namespace Go.Proofs
open Go Go.Vk Go.Vk.Flow

open Go.Vk.Deed

theorem c_rowner (n : Int) (w : World) :
  Cl Tryz.prog 86 #[.int .i64 n] w fun v w' => v = .bool (own n) ∧ Le w w' := by
 refine fn_of_run (args := [_]) 9 Tryz.func86 rfl rfl rfl fun cs => ?_
 have S := Own.start (X := nob) w
 refine r_seq ?_
 refine r_region ?_
 refine l_a rfl ?_
 refine l_nil ?_
 refine r_seq ?_
 refine r_region ?_
 refine l_m rfl ?_
 refine l_x rfl (x_geq rfl rfl) ?_
 refine l_m rfl ?_
 refine l_splitd (d := 5) rfl (fun hg5 => ?_) (fun hg5 => ?_)
 ·skip
  refine l_m rfl ?_
  refine l_x rfl (x_leq rfl rfl) ?_
  refine l_x rfl (x_pick_t rfl rfl) ?_
  refine l_a rfl ?_
  refine l_nil ?_
  refine r_ret (rs := [.tmp 2]) [_] Tryz.func86 rfl ⟨rfl, trivial⟩ ?_
  exact ⟨congrArg Value.bool (by unfold own rng; first | (apply decE; omega) | (apply decF; omega)), S.le⟩
 refine l_pass rfl ?_
 refine l_pass rfl ?_
 refine l_x rfl (x_pick_f rfl rfl) ?_
 refine l_a rfl ?_
 refine l_nil ?_
 refine r_ret (rs := [.tmp 2]) [_] Tryz.func86 rfl ⟨rfl, trivial⟩ ?_
 exact ⟨congrArg Value.bool (by unfold own rng; first | (apply decE; omega) | (apply decF; omega)), S.le⟩

theorem c_uses_from (k : Int) (w : World) :
  Cl Tryz.prog 113 #[.int .u8 k, .string ⟨#[102, 114, 111, 109]⟩] w fun v w' => v = .bool (decide (k = 2 ∨ k = 3 ∨ k = 4 ∨ k = 5)) ∧ Le w w' := by
 refine fn_of_run (args := [_, _]) 72 Tryz.func113 rfl rfl rfl fun cs => ?_
 have S := Own.start (X := nob) w
 refine r_seq ?_
 refine r_region ?_
 refine l_a rfl ?_
 refine l_nil ?_
 refine r_seq ?_
 refine r_seq ?_
 refine r_region ?_
 refine l_m rfl ?_
 refine l_nil ?_
 refine r_block ?_
 refine r_seq ?_
 refine r_region ?_
 refine l_x rfl (x_eqstr (t := true) rfl rfl (by decide +kernel)) ?_
 refine l_a rfl ?_
 refine l_nil ?_
 refine r_true rfl ?_
 refine r_seq ?_
 refine r_region ?_
 refine l_m rfl ?_
 refine l_x rfl (x_eql rfl rfl) ?_
 refine l_m rfl ?_
 refine l_splitd (d := 10) rfl (fun hg10 => ?_) (fun hg10 => ?_)
 ·skip
  refine l_pass rfl ?_
  refine l_pass rfl ?_
  refine l_x rfl (x_pick_t rfl rfl) ?_
  refine l_m rfl ?_
  refine l_pass rfl ?_
  refine l_pass rfl ?_
  refine l_x rfl (x_pick_t rfl rfl) ?_
  refine l_m rfl ?_
  refine l_pass rfl ?_
  refine l_pass rfl ?_
  refine l_x rfl (x_pick_t rfl rfl) ?_
  refine l_a rfl ?_
  refine l_nil ?_
  refine r_ret (rs := [.tmp 4]) [_] Tryz.func113 rfl ⟨rfl, trivial⟩ ?_
  exact ⟨congrArg Value.bool (by first | (apply decE; omega) | (apply decF; omega) | (apply decT; omega)), S.le⟩
 refine l_m rfl ?_
 refine l_x rfl (x_eql rfl rfl) ?_
 refine l_x rfl (x_pick_f rfl rfl) ?_
 refine l_m rfl ?_
 refine l_splitd (d := 14) rfl (fun hg14 => ?_) (fun hg14 => ?_)
 ·skip
  refine l_pass rfl ?_
  refine l_pass rfl ?_
  refine l_x rfl (x_pick_t rfl rfl) ?_
  refine l_m rfl ?_
  refine l_pass rfl ?_
  refine l_pass rfl ?_
  refine l_x rfl (x_pick_t rfl rfl) ?_
  refine l_a rfl ?_
  refine l_nil ?_
  refine r_ret (rs := [.tmp 4]) [_] Tryz.func113 rfl ⟨rfl, trivial⟩ ?_
  exact ⟨congrArg Value.bool (by first | (apply decE; omega) | (apply decF; omega) | (apply decT; omega)), S.le⟩
 refine l_m rfl ?_
 refine l_x rfl (x_eql rfl rfl) ?_
 refine l_x rfl (x_pick_f rfl rfl) ?_
 refine l_m rfl ?_
 refine l_splitd (d := 18) rfl (fun hg18 => ?_) (fun hg18 => ?_)
 ·skip
  refine l_pass rfl ?_
  refine l_pass rfl ?_
  refine l_x rfl (x_pick_t rfl rfl) ?_
  refine l_a rfl ?_
  refine l_nil ?_
  refine r_ret (rs := [.tmp 4]) [_] Tryz.func113 rfl ⟨rfl, trivial⟩ ?_
  exact ⟨congrArg Value.bool (by first | (apply decE; omega) | (apply decF; omega) | (apply decT; omega)), S.le⟩
 refine l_m rfl ?_
 refine l_x rfl (x_eql rfl rfl) ?_
 refine l_x rfl (x_pick_f rfl rfl) ?_
 refine l_a rfl ?_
 refine l_nil ?_
 refine r_ret (rs := [.tmp 4]) [_] Tryz.func113 rfl ⟨rfl, trivial⟩ ?_
 exact ⟨congrArg Value.bool (by first | (apply decE; omega) | (apply decF; omega) | (apply decT; omega)), S.le⟩

theorem c_uses_to (k : Int) (w : World) :
  Cl Tryz.prog 113 #[.int .u8 k, .string ⟨#[116, 111]⟩] w fun v w' => v = .bool (decide (k = 1 ∨ k = 2 ∨ k = 4 ∨ k = 5)) ∧ Le w w' := by
 refine fn_of_run (args := [_, _]) 72 Tryz.func113 rfl rfl rfl fun cs => ?_
 have S := Own.start (X := nob) w
 refine r_seq ?_
 refine r_region ?_
 refine l_a rfl ?_
 refine l_nil ?_
 refine r_seq ?_
 refine r_seq ?_
 refine r_region ?_
 refine l_m rfl ?_
 refine l_nil ?_
 refine r_block ?_
 refine r_seq ?_
 refine r_region ?_
 refine l_x rfl (x_eqstr (t := false) rfl rfl (by decide +kernel)) ?_
 refine l_a rfl ?_
 refine l_nil ?_
 refine r_false rfl ?_
 refine r_seq ?_
 refine r_region ?_
 refine l_x rfl (x_eqstr (t := true) rfl rfl (by decide +kernel)) ?_
 refine l_a rfl ?_
 refine l_nil ?_
 refine r_true rfl ?_
 refine r_seq ?_
 refine r_region ?_
 refine l_m rfl ?_
 refine l_x rfl (x_eql rfl rfl) ?_
 refine l_m rfl ?_
 refine l_splitd (d := 26) rfl (fun hg26 => ?_) (fun hg26 => ?_)
 ·skip
  refine l_pass rfl ?_
  refine l_pass rfl ?_
  refine l_x rfl (x_pick_t rfl rfl) ?_
  refine l_m rfl ?_
  refine l_pass rfl ?_
  refine l_pass rfl ?_
  refine l_x rfl (x_pick_t rfl rfl) ?_
  refine l_m rfl ?_
  refine l_pass rfl ?_
  refine l_pass rfl ?_
  refine l_x rfl (x_pick_t rfl rfl) ?_
  refine l_a rfl ?_
  refine l_nil ?_
  refine r_ret (rs := [.tmp 4]) [_] Tryz.func113 rfl ⟨rfl, trivial⟩ ?_
  exact ⟨congrArg Value.bool (by first | (apply decE; omega) | (apply decF; omega) | (apply decT; omega)), S.le⟩
 refine l_m rfl ?_
 refine l_x rfl (x_eql rfl rfl) ?_
 refine l_x rfl (x_pick_f rfl rfl) ?_
 refine l_m rfl ?_
 refine l_splitd (d := 30) rfl (fun hg30 => ?_) (fun hg30 => ?_)
 ·skip
  refine l_pass rfl ?_
  refine l_pass rfl ?_
  refine l_x rfl (x_pick_t rfl rfl) ?_
  refine l_m rfl ?_
  refine l_pass rfl ?_
  refine l_pass rfl ?_
  refine l_x rfl (x_pick_t rfl rfl) ?_
  refine l_a rfl ?_
  refine l_nil ?_
  refine r_ret (rs := [.tmp 4]) [_] Tryz.func113 rfl ⟨rfl, trivial⟩ ?_
  exact ⟨congrArg Value.bool (by first | (apply decE; omega) | (apply decF; omega) | (apply decT; omega)), S.le⟩
 refine l_m rfl ?_
 refine l_x rfl (x_eql rfl rfl) ?_
 refine l_x rfl (x_pick_f rfl rfl) ?_
 refine l_m rfl ?_
 refine l_splitd (d := 34) rfl (fun hg34 => ?_) (fun hg34 => ?_)
 ·skip
  refine l_pass rfl ?_
  refine l_pass rfl ?_
  refine l_x rfl (x_pick_t rfl rfl) ?_
  refine l_a rfl ?_
  refine l_nil ?_
  refine r_ret (rs := [.tmp 4]) [_] Tryz.func113 rfl ⟨rfl, trivial⟩ ?_
  exact ⟨congrArg Value.bool (by first | (apply decE; omega) | (apply decF; omega) | (apply decT; omega)), S.le⟩
 refine l_m rfl ?_
 refine l_x rfl (x_eql rfl rfl) ?_
 refine l_x rfl (x_pick_f rfl rfl) ?_
 refine l_a rfl ?_
 refine l_nil ?_
 refine r_ret (rs := [.tmp 4]) [_] Tryz.func113 rfl ⟨rfl, trivial⟩ ?_
 exact ⟨congrArg Value.bool (by first | (apply decE; omega) | (apply decF; omega) | (apply decT; omega)), S.le⟩

theorem c_uses_parts (k : Int) (w : World) :
  Cl Tryz.prog 113 #[.int .u8 k, .string ⟨#[112, 97, 114, 116, 115]⟩] w fun v w' => v = .bool (decide (k = 1 ∨ k = 2 ∨ k = 4 ∨ k = 5)) ∧ Le w w' := by
 refine fn_of_run (args := [_, _]) 72 Tryz.func113 rfl rfl rfl fun cs => ?_
 have S := Own.start (X := nob) w
 refine r_seq ?_
 refine r_region ?_
 refine l_a rfl ?_
 refine l_nil ?_
 refine r_seq ?_
 refine r_seq ?_
 refine r_region ?_
 refine l_m rfl ?_
 refine l_nil ?_
 refine r_block ?_
 refine r_seq ?_
 refine r_region ?_
 refine l_x rfl (x_eqstr (t := false) rfl rfl (by decide +kernel)) ?_
 refine l_a rfl ?_
 refine l_nil ?_
 refine r_false rfl ?_
 refine r_seq ?_
 refine r_region ?_
 refine l_x rfl (x_eqstr (t := false) rfl rfl (by decide +kernel)) ?_
 refine l_a rfl ?_
 refine l_nil ?_
 refine r_false rfl ?_
 refine r_seq ?_
 refine r_region ?_
 refine l_x rfl (x_eqstr (t := true) rfl rfl (by decide +kernel)) ?_
 refine l_a rfl ?_
 refine l_nil ?_
 refine r_true rfl ?_
 refine r_seq ?_
 refine r_region ?_
 refine l_m rfl ?_
 refine l_x rfl (x_eql rfl rfl) ?_
 refine l_m rfl ?_
 refine l_splitd (d := 42) rfl (fun hg42 => ?_) (fun hg42 => ?_)
 ·skip
  refine l_pass rfl ?_
  refine l_pass rfl ?_
  refine l_x rfl (x_pick_t rfl rfl) ?_
  refine l_m rfl ?_
  refine l_pass rfl ?_
  refine l_pass rfl ?_
  refine l_x rfl (x_pick_t rfl rfl) ?_
  refine l_m rfl ?_
  refine l_pass rfl ?_
  refine l_pass rfl ?_
  refine l_x rfl (x_pick_t rfl rfl) ?_
  refine l_a rfl ?_
  refine l_nil ?_
  refine r_ret (rs := [.tmp 4]) [_] Tryz.func113 rfl ⟨rfl, trivial⟩ ?_
  exact ⟨congrArg Value.bool (by first | (apply decE; omega) | (apply decF; omega) | (apply decT; omega)), S.le⟩
 refine l_m rfl ?_
 refine l_x rfl (x_eql rfl rfl) ?_
 refine l_x rfl (x_pick_f rfl rfl) ?_
 refine l_m rfl ?_
 refine l_splitd (d := 46) rfl (fun hg46 => ?_) (fun hg46 => ?_)
 ·skip
  refine l_pass rfl ?_
  refine l_pass rfl ?_
  refine l_x rfl (x_pick_t rfl rfl) ?_
  refine l_m rfl ?_
  refine l_pass rfl ?_
  refine l_pass rfl ?_
  refine l_x rfl (x_pick_t rfl rfl) ?_
  refine l_a rfl ?_
  refine l_nil ?_
  refine r_ret (rs := [.tmp 4]) [_] Tryz.func113 rfl ⟨rfl, trivial⟩ ?_
  exact ⟨congrArg Value.bool (by first | (apply decE; omega) | (apply decF; omega) | (apply decT; omega)), S.le⟩
 refine l_m rfl ?_
 refine l_x rfl (x_eql rfl rfl) ?_
 refine l_x rfl (x_pick_f rfl rfl) ?_
 refine l_m rfl ?_
 refine l_splitd (d := 50) rfl (fun hg50 => ?_) (fun hg50 => ?_)
 ·skip
  refine l_pass rfl ?_
  refine l_pass rfl ?_
  refine l_x rfl (x_pick_t rfl rfl) ?_
  refine l_a rfl ?_
  refine l_nil ?_
  refine r_ret (rs := [.tmp 4]) [_] Tryz.func113 rfl ⟨rfl, trivial⟩ ?_
  exact ⟨congrArg Value.bool (by first | (apply decE; omega) | (apply decF; omega) | (apply decT; omega)), S.le⟩
 refine l_m rfl ?_
 refine l_x rfl (x_eql rfl rfl) ?_
 refine l_x rfl (x_pick_f rfl rfl) ?_
 refine l_a rfl ?_
 refine l_nil ?_
 refine r_ret (rs := [.tmp 4]) [_] Tryz.func113 rfl ⟨rfl, trivial⟩ ?_
 exact ⟨congrArg Value.bool (by first | (apply decE; omega) | (apply decF; omega) | (apply decT; omega)), S.le⟩

theorem c_uses_heirs (k : Int) (w : World) :
  Cl Tryz.prog 113 #[.int .u8 k, .string ⟨#[104, 101, 105, 114, 115]⟩] w fun v w' => v = .bool (decide (k = 3)) ∧ Le w w' := by
 refine fn_of_run (args := [_, _]) 72 Tryz.func113 rfl rfl rfl fun cs => ?_
 have S := Own.start (X := nob) w
 refine r_seq ?_
 refine r_region ?_
 refine l_a rfl ?_
 refine l_nil ?_
 refine r_seq ?_
 refine r_seq ?_
 refine r_region ?_
 refine l_m rfl ?_
 refine l_nil ?_
 refine r_block ?_
 refine r_seq ?_
 refine r_region ?_
 refine l_x rfl (x_eqstr (t := false) rfl rfl (by decide +kernel)) ?_
 refine l_a rfl ?_
 refine l_nil ?_
 refine r_false rfl ?_
 refine r_seq ?_
 refine r_region ?_
 refine l_x rfl (x_eqstr (t := false) rfl rfl (by decide +kernel)) ?_
 refine l_a rfl ?_
 refine l_nil ?_
 refine r_false rfl ?_
 refine r_seq ?_
 refine r_region ?_
 refine l_x rfl (x_eqstr (t := false) rfl rfl (by decide +kernel)) ?_
 refine l_a rfl ?_
 refine l_nil ?_
 refine r_false rfl ?_
 refine r_seq ?_
 refine r_region ?_
 refine l_x rfl (x_eqstr (t := true) rfl rfl (by decide +kernel)) ?_
 refine l_a rfl ?_
 refine l_nil ?_
 refine r_true rfl ?_
 refine r_seq ?_
 refine r_region ?_
 refine l_m rfl ?_
 refine l_x rfl (x_eql rfl rfl) ?_
 refine l_a rfl ?_
 refine l_nil ?_
 refine r_ret (rs := [.tmp 4]) [_] Tryz.func113 rfl ⟨rfl, trivial⟩ ?_
 exact ⟨congrArg Value.bool (by first | (apply decE; omega) | (apply decF; omega) | (apply decT; omega)), S.le⟩

theorem c_uses_end (k : Int) (w : World) :
  Cl Tryz.prog 113 #[.int .u8 k, .string ⟨#[101, 110, 100]⟩] w fun v w' => v = .bool (decide (k = 4)) ∧ Le w w' := by
 refine fn_of_run (args := [_, _]) 72 Tryz.func113 rfl rfl rfl fun cs => ?_
 have S := Own.start (X := nob) w
 refine r_seq ?_
 refine r_region ?_
 refine l_a rfl ?_
 refine l_nil ?_
 refine r_seq ?_
 refine r_seq ?_
 refine r_region ?_
 refine l_m rfl ?_
 refine l_nil ?_
 refine r_block ?_
 refine r_seq ?_
 refine r_region ?_
 refine l_x rfl (x_eqstr (t := false) rfl rfl (by decide +kernel)) ?_
 refine l_a rfl ?_
 refine l_nil ?_
 refine r_false rfl ?_
 refine r_seq ?_
 refine r_region ?_
 refine l_x rfl (x_eqstr (t := false) rfl rfl (by decide +kernel)) ?_
 refine l_a rfl ?_
 refine l_nil ?_
 refine r_false rfl ?_
 refine r_seq ?_
 refine r_region ?_
 refine l_x rfl (x_eqstr (t := false) rfl rfl (by decide +kernel)) ?_
 refine l_a rfl ?_
 refine l_nil ?_
 refine r_false rfl ?_
 refine r_seq ?_
 refine r_region ?_
 refine l_x rfl (x_eqstr (t := false) rfl rfl (by decide +kernel)) ?_
 refine l_a rfl ?_
 refine l_nil ?_
 refine r_false rfl ?_
 refine r_seq ?_
 refine r_region ?_
 refine l_x rfl (x_eqstr (t := true) rfl rfl (by decide +kernel)) ?_
 refine l_a rfl ?_
 refine l_nil ?_
 refine r_true rfl ?_
 refine r_seq ?_
 refine r_region ?_
 refine l_m rfl ?_
 refine l_x rfl (x_eql rfl rfl) ?_
 refine l_a rfl ?_
 refine l_nil ?_
 refine r_ret (rs := [.tmp 4]) [_] Tryz.func113 rfl ⟨rfl, trivial⟩ ?_
 exact ⟨congrArg Value.bool (by first | (apply decE; omega) | (apply decF; omega) | (apply decT; omega)), S.le⟩

theorem c_uses_of (k : Int) (w : World) :
  Cl Tryz.prog 113 #[.int .u8 k, .string ⟨#[111, 102]⟩] w fun v w' => v = .bool (decide (k = 6 ∨ k = 7 ∨ k = 8)) ∧ Le w w' := by
 refine fn_of_run (args := [_, _]) 72 Tryz.func113 rfl rfl rfl fun cs => ?_
 have S := Own.start (X := nob) w
 refine r_seq ?_
 refine r_region ?_
 refine l_a rfl ?_
 refine l_nil ?_
 refine r_seq ?_
 refine r_seq ?_
 refine r_region ?_
 refine l_m rfl ?_
 refine l_nil ?_
 refine r_block ?_
 refine r_seq ?_
 refine r_region ?_
 refine l_x rfl (x_eqstr (t := false) rfl rfl (by decide +kernel)) ?_
 refine l_a rfl ?_
 refine l_nil ?_
 refine r_false rfl ?_
 refine r_seq ?_
 refine r_region ?_
 refine l_x rfl (x_eqstr (t := false) rfl rfl (by decide +kernel)) ?_
 refine l_a rfl ?_
 refine l_nil ?_
 refine r_false rfl ?_
 refine r_seq ?_
 refine r_region ?_
 refine l_x rfl (x_eqstr (t := false) rfl rfl (by decide +kernel)) ?_
 refine l_a rfl ?_
 refine l_nil ?_
 refine r_false rfl ?_
 refine r_seq ?_
 refine r_region ?_
 refine l_x rfl (x_eqstr (t := false) rfl rfl (by decide +kernel)) ?_
 refine l_a rfl ?_
 refine l_nil ?_
 refine r_false rfl ?_
 refine r_seq ?_
 refine r_region ?_
 refine l_x rfl (x_eqstr (t := false) rfl rfl (by decide +kernel)) ?_
 refine l_a rfl ?_
 refine l_nil ?_
 refine r_false rfl ?_
 refine r_skip ?_
 refine r_inBlock ?_
 refine r_seq ?_
 refine r_region ?_
 refine l_m rfl ?_
 refine l_x rfl (x_eql rfl rfl) ?_
 refine l_m rfl ?_
 refine l_splitd (d := 64) rfl (fun hg64 => ?_) (fun hg64 => ?_)
 ·skip
  refine l_pass rfl ?_
  refine l_pass rfl ?_
  refine l_x rfl (x_pick_t rfl rfl) ?_
  refine l_m rfl ?_
  refine l_pass rfl ?_
  refine l_pass rfl ?_
  refine l_x rfl (x_pick_t rfl rfl) ?_
  refine l_a rfl ?_
  refine l_nil ?_
  refine r_ret (rs := [.tmp 4]) [_] Tryz.func113 rfl ⟨rfl, trivial⟩ ?_
  exact ⟨congrArg Value.bool (by first | (apply decE; omega) | (apply decF; omega) | (apply decT; omega)), S.le⟩
 refine l_m rfl ?_
 refine l_x rfl (x_eql rfl rfl) ?_
 refine l_x rfl (x_pick_f rfl rfl) ?_
 refine l_m rfl ?_
 refine l_splitd (d := 68) rfl (fun hg68 => ?_) (fun hg68 => ?_)
 ·skip
  refine l_pass rfl ?_
  refine l_pass rfl ?_
  refine l_x rfl (x_pick_t rfl rfl) ?_
  refine l_a rfl ?_
  refine l_nil ?_
  refine r_ret (rs := [.tmp 4]) [_] Tryz.func113 rfl ⟨rfl, trivial⟩ ?_
  exact ⟨congrArg Value.bool (by first | (apply decE; omega) | (apply decF; omega) | (apply decT; omega)), S.le⟩
 refine l_m rfl ?_
 refine l_x rfl (x_eql rfl rfl) ?_
 refine l_x rfl (x_pick_f rfl rfl) ?_
 refine l_a rfl ?_
 refine l_nil ?_
 refine r_ret (rs := [.tmp 4]) [_] Tryz.func113 rfl ⟨rfl, trivial⟩ ?_
 exact ⟨congrArg Value.bool (by first | (apply decE; omega) | (apply decF; omega) | (apply decT; omega)), S.le⟩

set_option maxHeartbeats 4000000 in
theorem c_rheirs (a : Rw) (w : World) (hA : SubR 3 w a) :
  Cl Tryz.prog 114 #[.agg (encD a).toArray] w fun v w' => v = .bool (heirsR a.1) ∧ Le w w' := by
 have hm1 := hA.3
 have hm2 := hA.4
 refine fn_of_run (args := [_]) 80 Tryz.func114 rfl rfl rfl fun cs => ?_
 have S := Own.start (X := nob) w
 refine r_seq ?_
 refine r_region ?_
 refine l_box S rfl rfl ?_
 intro b4 w1 S2 hl3
 refine l_a rfl ?_
 refine l_nil ?_
 refine r_seq ?_
 refine r_seq ?_
 refine r_region ?_
 refine l_x rfl (x_fieldAddr rfl Tryz.runUnderlying26 rfl Tryz.sizeOf24 (by decide)) ?_
 refine l_x rfl (x_load rfl (ld_blk (S2.blk 0 rfl) Tryz.isAgg24 rfl)) ?_
 refine l_x rfl (x_len (hA.1.le S2.le) rfl Tryz.runUnderlying24) ?_
 refine l_x rfl (x_lss rfl rfl) ?_
 refine l_m rfl ?_
 refine l_splitd (d := 9) rfl (fun hg9 => ?_) (fun hg9 => ?_)
 ·skip
  refine l_pass rfl ?_
  refine l_pass rfl ?_
  refine l_pass rfl ?_
  refine l_pass rfl ?_
  refine l_x rfl (x_pick_t rfl rfl) ?_
  refine l_m rfl ?_
  refine l_pass rfl ?_
  refine l_pass rfl ?_
  refine l_pass rfl ?_
  refine l_pass rfl ?_
  refine l_pass rfl ?_
  refine l_pass rfl ?_
  refine l_pass rfl ?_
  refine l_x rfl (x_pick_t rfl rfl) ?_
  refine l_nil ?_
  refine r_true rfl ?_
  refine r_seq ?_
  refine r_region ?_
  refine l_a rfl ?_
  refine l_nil ?_
  refine r_ret (rs := [.tmp 2]) [_] Tryz.func114 rfl ⟨rfl, trivial⟩ ?_
  exact ⟨congrArg Value.bool (heirsR_len (by omega)).symm, S2.le⟩
 refine l_x rfl (x_fieldAddr rfl Tryz.runUnderlying26 rfl Tryz.sizeOf24 (by decide)) ?_
 refine l_x rfl (x_load rfl (ld_blk (S2.blk 0 rfl) Tryz.isAgg24 rfl)) ?_
 refine l_x rfl (x_len (hA.1.le S2.le) rfl Tryz.runUnderlying24) ?_
 refine l_x rfl (x_gtr rfl rfl) ?_
 refine l_x rfl (x_pick_f rfl rfl) ?_
 refine l_m rfl ?_
 refine l_splitd (d := 15) rfl (fun hg15 => ?_) (fun hg15 => ?_)
 ·skip
  refine l_pass rfl ?_
  refine l_pass rfl ?_
  refine l_pass rfl ?_
  refine l_pass rfl ?_
  refine l_pass rfl ?_
  refine l_pass rfl ?_
  refine l_pass rfl ?_
  refine l_x rfl (x_pick_t rfl rfl) ?_
  refine l_nil ?_
  refine r_true rfl ?_
  refine r_seq ?_
  refine r_region ?_
  refine l_a rfl ?_
  refine l_nil ?_
  refine r_ret (rs := [.tmp 2]) [_] Tryz.func114 rfl ⟨rfl, trivial⟩ ?_
  exact ⟨congrArg Value.bool (heirsR_len (by omega)).symm, S2.le⟩
 refine l_x rfl (x_fieldAddr rfl Tryz.runUnderlying26 rfl Tryz.sizeOf24 (by decide)) ?_
 refine l_x rfl (x_load rfl (ld_blk (S2.blk 0 rfl) Tryz.isAgg24 rfl)) ?_
 refine l_x rfl (x_len (hA.2.le S2.le) rfl Tryz.runUnderlying24) ?_
 refine l_x rfl (x_fieldAddr rfl Tryz.runUnderlying26 rfl Tryz.sizeOf24 (by decide)) ?_
 refine l_x rfl (x_load rfl (ld_blk (S2.blk 0 rfl) Tryz.isAgg24 rfl)) ?_
 refine l_x rfl (x_len (hA.1.le S2.le) rfl Tryz.runUnderlying24) ?_
 refine l_x rfl (x_neq rfl rfl) ?_
 refine l_x rfl (x_pick_f rfl rfl) ?_
 refine l_nil ?_
 refine r_ifd rfl (fun hc23 => ?_) (fun hc23 => ?_)
 ·skip
  refine r_seq ?_
  refine r_region ?_
  refine l_a rfl ?_
  refine l_nil ?_
  refine r_ret (rs := [.tmp 2]) [_] Tryz.func114 rfl ⟨rfl, trivial⟩ ?_
  exact ⟨congrArg Value.bool (heirsR_len (by omega)).symm, S2.le⟩
 have hlo : 1 ≤ a.1.heirs.length ∧ a.1.heirs.length ≤ 10 := by omega
 have hle : a.1.shares.length = a.1.heirs.length := by omega
 refine r_skip ?_
 refine r_seq ?_
 refine r_seq ?_
 refine r_region ?_
 refine l_a rfl ?_
 refine l_nil ?_
 refine r_block ?_
 refine r_loop (G := Nat) (fun i => a.1.heirs.length - i) (fun i => [(1, .pointer (some ⟨b4, 0, none⟩)), (3, .int .i64 i)]) (fun i w' => (i ≤ a.1.heirs.length) ∧ (∀ j, j < i → HR a.1 j) ∧ Own nob w w' [blk b4 (encD a) 26]) 0 ⟨rfl, rfl, trivial⟩ ⟨Nat.zero_le _, fun j hj => absurd hj (Nat.not_lt_zero j), (S2.take 1)⟩ ?_
 rintro i ρ w1 ⟨hi, hall, S1⟩ IH
 refine r_seq ?_
 refine r_seq ?_
 refine r_region ?_
 refine l_m rfl ?_
 refine l_x rfl (x_fieldAddr rfl Tryz.runUnderlying26 rfl Tryz.sizeOf24 (by decide)) ?_
 refine l_x rfl (x_load rfl (ld_blk (S1.blk 0 rfl) Tryz.isAgg24 rfl)) ?_
 refine l_x rfl (x_len (hA.1.le S1.le) rfl Tryz.runUnderlying24) ?_
 refine l_x rfl (x_lss rfl rfl) ?_
 refine l_nil ?_
 refine r_ifd rfl (fun hc28 => ?_) (fun hc28 => ?_)
 ·skip
  obtain ⟨h, hh⟩ : ∃ h, a.1.heirs[i]? = some h := ⟨_, List.getElem?_eq_getElem (by omega)⟩
  obtain ⟨s, hs⟩ : ∃ s, a.1.shares[i]? = some s := ⟨_, List.getElem?_eq_getElem (by omega)⟩
  refine r_skip ?_
  refine r_seq ?_
  refine r_block ?_
  refine r_seq ?_
  refine r_seq ?_
  refine r_drawR 33 Tryz.mixed (by kernel_rfl) ?_
  refine w_x rfl (fun w1 h1 => x_fieldAddr rfl Tryz.runUnderlying26 rfl Tryz.sizeOf24 (by decide)) ?_
  refine w_x rfl (fun w1 h1 => x_load rfl (ld_blk ((S1.step h1).blk 0 rfl) Tryz.isAgg24 rfl)) ?_
  refine w_x rfl (fun w1 h1 => x_mv rfl) ?_
  refine w_index EI rfl (hA.1.le S1.le) rfl rfl Tryz.runUnderlying24 Tryz.sizeOf3 (by omega) hh ?_
  intro b5 o6 hat7 row8
  refine w_x rfl (fun w1 h1 => x_load rfl (ld_cell Tryz.isAgg3 ((row8.le h1) 0 _ rfl))) ?_
  refine wd_call [] [] [_] rfl rfl Tryz.call86 rfl (fun w1 h1 => c_rowner _ _) ?_
  refine w_x rfl (fun w1 h1 => x_not rfl) ?_
  refine w_x rfl (fun w1 h1 => x_mv rfl) ?_
  refine w_split (d := 38) rfl (fun hg38 => ?_) (fun hg38 => ?_)
  ·skip
   refine w_pass rfl ?_
   refine w_pass rfl ?_
   refine w_pass rfl ?_
   refine w_pass rfl ?_
   refine w_pass rfl ?_
   refine w_pass rfl ?_
   refine w_pass rfl ?_
   refine w_pass rfl ?_
   refine w_x rfl (fun w1 h1 => x_pick_t rfl rfl) ?_
   refine w_x rfl (fun w1 h1 => x_mv rfl) ?_
   refine w_pass rfl ?_
   refine w_pass rfl ?_
   refine w_pass rfl ?_
   refine w_pass rfl ?_
   refine w_pass rfl ?_
   refine w_pass rfl ?_
   refine w_x rfl (fun w1 h1 => x_pick_t rfl rfl) ?_
   refine w_x rfl (fun w1 h1 => x_mv rfl) ?_
   refine w_pass rfl ?_
   refine w_pass rfl ?_
   refine w_pass rfl ?_
   refine w_pass rfl ?_
   refine w_pass rfl ?_
   refine w_pass rfl ?_
   refine w_x rfl (fun w1 h1 => x_pick_t rfl rfl) ?_
   refine w_nil ?_
   intro w9 hl10
   have S11 := S1.step hl10
   refine l_nil ?_
   refine r_true rfl ?_
   refine r_seq ?_
   refine r_region ?_
   refine l_a rfl ?_
   refine l_nil ?_
   refine r_ret (rs := [.tmp 2]) [_] Tryz.func114 rfl ⟨rfl, trivial⟩ ?_
   exact ⟨congrArg Value.bool (heirsR_no (j := i) (by omega) (fun hr => by have h8 := (hr.ok h hh); have h9 := hr.sh s hs; first | omega | simp_all)).symm, S11.le⟩
  refine w_x rfl (fun w1 h1 => x_fieldAddr rfl Tryz.runUnderlying26 rfl Tryz.sizeOf24 (by decide)) ?_
  refine w_x rfl (fun w1 h1 => x_load rfl (ld_blk ((S1.step h1).blk 0 rfl) Tryz.isAgg24 rfl)) ?_
  refine w_x rfl (fun w1 h1 => x_mv rfl) ?_
  refine w_index EI rfl (hA.1.le S1.le) rfl rfl Tryz.runUnderlying24 Tryz.sizeOf3 (by omega) hh ?_
  intro b12 o13 hat14 row15
  refine w_x rfl (fun w1 h1 => x_load rfl (ld_cell Tryz.isAgg3 ((row15.le h1) 0 _ rfl))) ?_
  refine w_x rfl (fun w1 h1 => x_fieldAddr rfl Tryz.runUnderlying26 rfl Tryz.sizeOf3 (by decide)) ?_
  refine w_x rfl (fun w1 h1 => x_load rfl (ld_blk ((S1.step h1).blk 0 rfl) Tryz.isAgg3 rfl)) ?_
  refine w_x rfl (fun w1 h1 => x_eql rfl rfl) ?_
  refine w_x rfl (fun w1 h1 => x_pick_f rfl rfl) ?_
  refine w_x rfl (fun w1 h1 => x_mv rfl) ?_
  refine w_splitd (d := 48) rfl (fun hg48 => ?_) (fun hg48 => ?_)
  ·skip
   refine w_pass rfl ?_
   refine w_pass rfl ?_
   refine w_pass rfl ?_
   refine w_pass rfl ?_
   refine w_pass rfl ?_
   refine w_pass rfl ?_
   refine w_x rfl (fun w1 h1 => x_pick_t rfl rfl) ?_
   refine w_x rfl (fun w1 h1 => x_mv rfl) ?_
   refine w_pass rfl ?_
   refine w_pass rfl ?_
   refine w_pass rfl ?_
   refine w_pass rfl ?_
   refine w_pass rfl ?_
   refine w_pass rfl ?_
   refine w_x rfl (fun w1 h1 => x_pick_t rfl rfl) ?_
   refine w_nil ?_
   intro w16 hl17
   have S18 := S1.step hl17
   refine l_nil ?_
   refine r_true rfl ?_
   refine r_seq ?_
   refine r_region ?_
   refine l_a rfl ?_
   refine l_nil ?_
   refine r_ret (rs := [.tmp 2]) [_] Tryz.func114 rfl ⟨rfl, trivial⟩ ?_
   exact ⟨congrArg Value.bool (heirsR_no (j := i) (by omega) (fun hr => by have h8 := (hr.ok h hh); have h9 := hr.sh s hs; first | omega | simp_all)).symm, S18.le⟩
  refine w_x rfl (fun w1 h1 => x_fieldAddr rfl Tryz.runUnderlying26 rfl Tryz.sizeOf24 (by decide)) ?_
  refine w_x rfl (fun w1 h1 => x_load rfl (ld_blk ((S1.step h1).blk 0 rfl) Tryz.isAgg24 rfl)) ?_
  refine w_x rfl (fun w1 h1 => x_mv rfl) ?_
  refine w_index EI rfl (hA.2.le S1.le) rfl rfl Tryz.runUnderlying24 Tryz.sizeOf3 (by omega) hs ?_
  intro b19 o20 hat21 row22
  refine w_x rfl (fun w1 h1 => x_load rfl (ld_cell Tryz.isAgg3 ((row22.le h1) 0 _ rfl))) ?_
  refine w_x rfl (fun w1 h1 => x_lss rfl rfl) ?_
  refine w_x rfl (fun w1 h1 => x_pick_f rfl rfl) ?_
  refine w_x rfl (fun w1 h1 => x_mv rfl) ?_
  refine w_splitd (d := 56) rfl (fun hg56 => ?_) (fun hg56 => ?_)
  ·skip
   refine w_pass rfl ?_
   refine w_pass rfl ?_
   refine w_pass rfl ?_
   refine w_pass rfl ?_
   refine w_pass rfl ?_
   refine w_pass rfl ?_
   refine w_x rfl (fun w1 h1 => x_pick_t rfl rfl) ?_
   refine w_nil ?_
   intro w23 hl24
   have S25 := S1.step hl24
   refine l_nil ?_
   refine r_true rfl ?_
   refine r_seq ?_
   refine r_region ?_
   refine l_a rfl ?_
   refine l_nil ?_
   refine r_ret (rs := [.tmp 2]) [_] Tryz.func114 rfl ⟨rfl, trivial⟩ ?_
   exact ⟨congrArg Value.bool (heirsR_no (j := i) (by omega) (fun hr => by have h8 := (hr.ok h hh); have h9 := hr.sh s hs; first | omega | simp_all)).symm, S25.le⟩
  refine w_x rfl (fun w1 h1 => x_fieldAddr rfl Tryz.runUnderlying26 rfl Tryz.sizeOf24 (by decide)) ?_
  refine w_x rfl (fun w1 h1 => x_load rfl (ld_blk ((S1.step h1).blk 0 rfl) Tryz.isAgg24 rfl)) ?_
  refine w_x rfl (fun w1 h1 => x_mv rfl) ?_
  refine w_index EI rfl (hA.2.le S1.le) rfl rfl Tryz.runUnderlying24 Tryz.sizeOf3 (by omega) hs ?_
  intro b26 o27 hat28 row29
  refine w_x rfl (fun w1 h1 => x_load rfl (ld_cell Tryz.isAgg3 ((row29.le h1) 0 _ rfl))) ?_
  refine w_x rfl (fun w1 h1 => x_gtr rfl rfl) ?_
  refine w_x rfl (fun w1 h1 => x_pick_f rfl rfl) ?_
  refine w_nil ?_
  intro w30 hl31
  have S32 := S1.step hl31
  refine l_nil ?_
  refine r_ifd rfl (fun hc63 => ?_) (fun hc63 => ?_)
  ·skip
   refine r_seq ?_
   refine r_region ?_
   refine l_a rfl ?_
   refine l_nil ?_
   refine r_ret (rs := [.tmp 2]) [_] Tryz.func114 rfl ⟨rfl, trivial⟩ ?_
   exact ⟨congrArg Value.bool (heirsR_no (j := i) (by omega) (fun hr => by have h8 := (hr.ok h hh); have h9 := hr.sh s hs; first | omega | simp_all)).symm, S32.le⟩
  have hsr : 1 ≤ s ∧ s ≤ 1000 := by omega
  refine r_skip ?_
  refine r_seq ?_
  refine r_region ?_
  refine l_a rfl ?_
  refine l_nil ?_
  refine r_block ?_
  refine r_loop (G := Nat) (fun k => i - k) (fun k => [(1, .pointer (some ⟨b4, 0, none⟩)), (3, .int .i64 i), (4, .int .i64 k)]) (fun k w' => (k ≤ i) ∧ (∀ q, q < k → a.1.heirs[q]? ≠ some h) ∧ Own nob w w' [blk b4 (encD a) 26]) 0 ⟨rfl, rfl, rfl, trivial⟩ ⟨Nat.zero_le _, fun j hj => absurd hj (Nat.not_lt_zero j), (S32.take 1)⟩ ?_
  rintro k ρ w1b ⟨hk, hkk, S1b⟩ IHb
  refine r_seq ?_
  refine r_seq ?_
  refine r_region ?_
  refine l_m rfl ?_
  refine l_m rfl ?_
  refine l_x rfl (x_lss rfl rfl) ?_
  refine l_nil ?_
  refine r_ifd rfl (fun hc66 => ?_) (fun hc66 => ?_)
  ·skip
   obtain ⟨g, hg⟩ : ∃ h, a.1.heirs[k]? = some h := ⟨_, List.getElem?_eq_getElem (by omega)⟩
   refine r_skip ?_
   refine r_seq ?_
   refine r_block ?_
   refine r_seq ?_
   refine r_drawR 11 Tryz.mixed (by kernel_rfl) ?_
   refine w_x rfl (fun w1 h1 => x_fieldAddr rfl Tryz.runUnderlying26 rfl Tryz.sizeOf24 (by decide)) ?_
   refine w_x rfl (fun w1 h1 => x_load rfl (ld_blk ((S1b.step h1).blk 0 rfl) Tryz.isAgg24 rfl)) ?_
   refine w_x rfl (fun w1 h1 => x_mv rfl) ?_
   refine w_index EI rfl (hA.1.le S1b.le) rfl rfl Tryz.runUnderlying24 Tryz.sizeOf3 (by omega) hg ?_
   intro b33 o34 hat35 row36
   refine w_x rfl (fun w1 h1 => x_load rfl (ld_cell Tryz.isAgg3 ((row36.le h1) 0 _ rfl))) ?_
   refine w_x rfl (fun w1 h1 => x_fieldAddr rfl Tryz.runUnderlying26 rfl Tryz.sizeOf24 (by decide)) ?_
   refine w_x rfl (fun w1 h1 => x_load rfl (ld_blk ((S1b.step h1).blk 0 rfl) Tryz.isAgg24 rfl)) ?_
   refine w_x rfl (fun w1 h1 => x_mv rfl) ?_
   refine w_index EI rfl (hA.1.le S1b.le) rfl rfl Tryz.runUnderlying24 Tryz.sizeOf3 (by omega) hh ?_
   intro b37 o38 hat39 row40
   refine w_x rfl (fun w1 h1 => x_load rfl (ld_cell Tryz.isAgg3 ((row40.le h1) 0 _ rfl))) ?_
   refine w_x rfl (fun w1 h1 => x_eql rfl rfl) ?_
   refine w_nil ?_
   intro w41 hl42
   have S43 := S1b.step hl42
   refine l_nil ?_
   refine r_ifd rfl (fun hc79 => ?_) (fun hc79 => ?_)
   ·skip
    refine r_seq ?_
    refine r_region ?_
    refine l_a rfl ?_
    refine l_nil ?_
    refine r_ret (rs := [.tmp 2]) [_] Tryz.func114 rfl ⟨rfl, trivial⟩ ?_
    exact ⟨congrArg Value.bool (heirsR_no (j := i) (by omega) (fun hr => (hr.ok h hh).2.2 k (by omega) (by rw [hg, hc79]))).symm, S43.le⟩
   refine r_skip ?_
   refine r_inBlock ?_
   refine r_region ?_
   refine l_m rfl ?_
   refine l_x rfl (x_add rfl rfl (by omega)) ?_
   refine l_a rfl ?_
   refine l_nil ?_
   exact IHb (k + 1) _ _ (by omega) ⟨rfl, rfl, rfl, trivial⟩ ⟨by omega, all_step hkk (fun e => by rw [hg] at e; exact hc79 (Option.some.inj e)), (S43.take 1)⟩
  obtain rfl : k = i := by omega
  have hri : HR a.1 k := ⟨fun h1 e1 => by rw [hh] at e1; cases e1; exact ⟨by simpa using hg38, hg48, fun q hq => hkk q hq⟩, fun s1 e1 => by rw [hs] at e1; cases e1; exact hsr⟩
  refine r_exit rfl ?_
  refine r_inBlock ?_
  refine r_region ?_
  refine l_m rfl ?_
  refine l_x rfl (x_add rfl rfl (by omega)) ?_
  refine l_a rfl ?_
  refine l_nil ?_
  exact IH (k + 1) _ _ (by omega) ⟨rfl, rfl, trivial⟩ ⟨by omega, all_step hall hri, (S1b.take 1)⟩
 obtain rfl : i = a.1.heirs.length := by omega
 refine r_exit rfl ?_
 refine r_seq ?_
 refine r_region ?_
 refine l_a rfl ?_
 refine l_nil ?_
 refine r_ret (rs := [.tmp 2]) [_] Tryz.func114 rfl ⟨rfl, trivial⟩ ?_
 exact ⟨congrArg Value.bool (heirsR_all hlo hle hall).symm, S1.le⟩

set_option maxHeartbeats 8000000 in
theorem c_rCheckDeed (a : Rw) (w : World) (hA : SubR 3 w a) :
  Cl Tryz.prog 48 #[.agg (encD a).toArray] w fun v w' => v = .int .i64 (if formed a.1 = true then 0 else 1) ∧ Le w w' := by
 refine fn_of_run (args := [_]) 176 Tryz.func48 rfl rfl rfl fun cs => ?_
 have S := Own.start (X := nob) w
 refine r_seq ?_
 refine r_region ?_
 refine l_box S rfl rfl ?_
 intro b4 w1 S2 hl3
 refine l_a rfl ?_
 refine l_nil ?_
 refine r_seq ?_
 refine r_seq ?_
 refine r_region ?_
 refine l_x rfl (x_fieldAddr rfl Tryz.runUnderlying26 rfl Tryz.sizeOf5 (by decide)) ?_
 refine l_x rfl (x_load rfl (ld_blk (S2.blk 0 rfl) Tryz.isAgg5 rfl)) ?_
 refine l_x rfl (x_lss rfl rfl) ?_
 refine l_m rfl ?_
 refine l_splitd (d := 7) rfl (fun hg7 => ?_) (fun hg7 => ?_)
 ·skip
  refine l_pass rfl ?_
  refine l_pass rfl ?_
  refine l_pass rfl ?_
  refine l_x rfl (x_pick_t rfl rfl) ?_
  refine l_m rfl ?_
  refine l_pass rfl ?_
  refine l_pass rfl ?_
  refine l_pass rfl ?_
  refine l_x rfl (x_pick_t rfl rfl) ?_
  refine l_m rfl ?_
  refine l_pass rfl ?_
  refine l_pass rfl ?_
  refine l_pass rfl ?_
  refine l_x rfl (x_pick_t rfl rfl) ?_
  refine l_m rfl ?_
  refine l_pass rfl ?_
  refine l_pass rfl ?_
  refine l_pass rfl ?_
  refine l_x rfl (x_pick_t rfl rfl) ?_
  refine l_m rfl ?_
  refine l_pass rfl ?_
  refine l_pass rfl ?_
  refine l_pass rfl ?_
  refine l_x rfl (x_pick_t rfl rfl) ?_
  refine l_m rfl ?_
  refine l_pass rfl ?_
  refine l_pass rfl ?_
  refine l_pass rfl ?_
  refine l_x rfl (x_pick_t rfl rfl) ?_
  refine l_m rfl ?_
  refine l_pass rfl ?_
  refine l_pass rfl ?_
  refine l_pass rfl ?_
  refine l_x rfl (x_pick_t rfl rfl) ?_
  refine l_m rfl ?_
  refine l_pass rfl ?_
  refine l_pass rfl ?_
  refine l_pass rfl ?_
  refine l_pass rfl ?_
  refine l_pass rfl ?_
  refine l_pass rfl ?_
  refine l_pass rfl ?_
  refine l_pass rfl ?_
  refine l_x rfl (x_pick_t rfl rfl) ?_
  refine l_nil ?_
  refine r_true rfl ?_
  refine r_seq ?_
  refine r_region ?_
  refine l_a rfl ?_
  refine l_nil ?_
  refine r_ret (rs := [.tmp 2]) [_] Tryz.func48 rfl ⟨rfl, trivial⟩ ?_
  exact ⟨congrArg (Value.int .i64) (by rw [formed_ref, if_neg (by rw [headR, decide_eq_false (by omega)]; simp)]), S2.le⟩
 refine l_x rfl (x_fieldAddr rfl Tryz.runUnderlying26 rfl Tryz.sizeOf5 (by decide)) ?_
 refine l_x rfl (x_load rfl (ld_blk (S2.blk 0 rfl) Tryz.isAgg5 rfl)) ?_
 refine l_x rfl (x_gtr rfl rfl) ?_
 refine l_x rfl (x_pick_f rfl rfl) ?_
 refine l_m rfl ?_
 refine l_splitd (d := 12) rfl (fun hg12 => ?_) (fun hg12 => ?_)
 ·skip
  refine l_pass rfl ?_
  refine l_pass rfl ?_
  refine l_pass rfl ?_
  refine l_x rfl (x_pick_t rfl rfl) ?_
  refine l_m rfl ?_
  refine l_pass rfl ?_
  refine l_pass rfl ?_
  refine l_pass rfl ?_
  refine l_x rfl (x_pick_t rfl rfl) ?_
  refine l_m rfl ?_
  refine l_pass rfl ?_
  refine l_pass rfl ?_
  refine l_pass rfl ?_
  refine l_x rfl (x_pick_t rfl rfl) ?_
  refine l_m rfl ?_
  refine l_pass rfl ?_
  refine l_pass rfl ?_
  refine l_pass rfl ?_
  refine l_x rfl (x_pick_t rfl rfl) ?_
  refine l_m rfl ?_
  refine l_pass rfl ?_
  refine l_pass rfl ?_
  refine l_pass rfl ?_
  refine l_x rfl (x_pick_t rfl rfl) ?_
  refine l_m rfl ?_
  refine l_pass rfl ?_
  refine l_pass rfl ?_
  refine l_pass rfl ?_
  refine l_x rfl (x_pick_t rfl rfl) ?_
  refine l_m rfl ?_
  refine l_pass rfl ?_
  refine l_pass rfl ?_
  refine l_pass rfl ?_
  refine l_pass rfl ?_
  refine l_pass rfl ?_
  refine l_pass rfl ?_
  refine l_pass rfl ?_
  refine l_pass rfl ?_
  refine l_x rfl (x_pick_t rfl rfl) ?_
  refine l_nil ?_
  refine r_true rfl ?_
  refine r_seq ?_
  refine r_region ?_
  refine l_a rfl ?_
  refine l_nil ?_
  refine r_ret (rs := [.tmp 2]) [_] Tryz.func48 rfl ⟨rfl, trivial⟩ ?_
  exact ⟨congrArg (Value.int .i64) (by rw [formed_ref, if_neg (by rw [headR, decide_eq_false (by omega)]; simp)]), S2.le⟩
 refine l_x rfl (x_fieldAddr rfl Tryz.runUnderlying26 rfl Tryz.sizeOf3 (by decide)) ?_
 refine l_x rfl (x_load rfl (ld_blk (S2.blk 0 rfl) Tryz.isAgg3 rfl)) ?_
 refine l_x rfl (x_lss rfl rfl) ?_
 refine l_x rfl (x_pick_f rfl rfl) ?_
 refine l_m rfl ?_
 refine l_splitd (d := 17) rfl (fun hg17 => ?_) (fun hg17 => ?_)
 ·skip
  refine l_pass rfl ?_
  refine l_pass rfl ?_
  refine l_pass rfl ?_
  refine l_x rfl (x_pick_t rfl rfl) ?_
  refine l_m rfl ?_
  refine l_pass rfl ?_
  refine l_pass rfl ?_
  refine l_pass rfl ?_
  refine l_x rfl (x_pick_t rfl rfl) ?_
  refine l_m rfl ?_
  refine l_pass rfl ?_
  refine l_pass rfl ?_
  refine l_pass rfl ?_
  refine l_x rfl (x_pick_t rfl rfl) ?_
  refine l_m rfl ?_
  refine l_pass rfl ?_
  refine l_pass rfl ?_
  refine l_pass rfl ?_
  refine l_x rfl (x_pick_t rfl rfl) ?_
  refine l_m rfl ?_
  refine l_pass rfl ?_
  refine l_pass rfl ?_
  refine l_pass rfl ?_
  refine l_x rfl (x_pick_t rfl rfl) ?_
  refine l_m rfl ?_
  refine l_pass rfl ?_
  refine l_pass rfl ?_
  refine l_pass rfl ?_
  refine l_pass rfl ?_
  refine l_pass rfl ?_
  refine l_pass rfl ?_
  refine l_pass rfl ?_
  refine l_pass rfl ?_
  refine l_x rfl (x_pick_t rfl rfl) ?_
  refine l_nil ?_
  refine r_true rfl ?_
  refine r_seq ?_
  refine r_region ?_
  refine l_a rfl ?_
  refine l_nil ?_
  refine r_ret (rs := [.tmp 2]) [_] Tryz.func48 rfl ⟨rfl, trivial⟩ ?_
  exact ⟨congrArg (Value.int .i64) (by rw [formed_ref, if_neg (by rw [headR, decide_eq_false (by omega)]; simp)]), S2.le⟩
 refine l_x rfl (x_fieldAddr rfl Tryz.runUnderlying26 rfl Tryz.sizeOf3 (by decide)) ?_
 refine l_x rfl (x_load rfl (ld_blk (S2.blk 0 rfl) Tryz.isAgg3 rfl)) ?_
 refine l_x rfl (x_gtr rfl rfl) ?_
 refine l_x rfl (x_pick_f rfl rfl) ?_
 refine l_m rfl ?_
 refine l_splitd (d := 22) rfl (fun hg22 => ?_) (fun hg22 => ?_)
 ·skip
  refine l_pass rfl ?_
  refine l_pass rfl ?_
  refine l_pass rfl ?_
  refine l_x rfl (x_pick_t rfl rfl) ?_
  refine l_m rfl ?_
  refine l_pass rfl ?_
  refine l_pass rfl ?_
  refine l_pass rfl ?_
  refine l_x rfl (x_pick_t rfl rfl) ?_
  refine l_m rfl ?_
  refine l_pass rfl ?_
  refine l_pass rfl ?_
  refine l_pass rfl ?_
  refine l_x rfl (x_pick_t rfl rfl) ?_
  refine l_m rfl ?_
  refine l_pass rfl ?_
  refine l_pass rfl ?_
  refine l_pass rfl ?_
  refine l_x rfl (x_pick_t rfl rfl) ?_
  refine l_m rfl ?_
  refine l_pass rfl ?_
  refine l_pass rfl ?_
  refine l_pass rfl ?_
  refine l_pass rfl ?_
  refine l_pass rfl ?_
  refine l_pass rfl ?_
  refine l_pass rfl ?_
  refine l_pass rfl ?_
  refine l_x rfl (x_pick_t rfl rfl) ?_
  refine l_nil ?_
  refine r_true rfl ?_
  refine r_seq ?_
  refine r_region ?_
  refine l_a rfl ?_
  refine l_nil ?_
  refine r_ret (rs := [.tmp 2]) [_] Tryz.func48 rfl ⟨rfl, trivial⟩ ?_
  exact ⟨congrArg (Value.int .i64) (by rw [formed_ref, if_neg (by rw [headR, decide_eq_false (by omega)]; simp)]), S2.le⟩
 refine l_x rfl (x_fieldAddr rfl Tryz.runUnderlying26 rfl Tryz.sizeOf3 (by decide)) ?_
 refine l_x rfl (x_load rfl (ld_blk (S2.blk 0 rfl) Tryz.isAgg3 rfl)) ?_
 refine l_x rfl (x_lss rfl rfl) ?_
 refine l_x rfl (x_pick_f rfl rfl) ?_
 refine l_m rfl ?_
 refine l_splitd (d := 27) rfl (fun hg27 => ?_) (fun hg27 => ?_)
 ·skip
  refine l_pass rfl ?_
  refine l_pass rfl ?_
  refine l_pass rfl ?_
  refine l_x rfl (x_pick_t rfl rfl) ?_
  refine l_m rfl ?_
  refine l_pass rfl ?_
  refine l_pass rfl ?_
  refine l_pass rfl ?_
  refine l_x rfl (x_pick_t rfl rfl) ?_
  refine l_m rfl ?_
  refine l_pass rfl ?_
  refine l_pass rfl ?_
  refine l_pass rfl ?_
  refine l_x rfl (x_pick_t rfl rfl) ?_
  refine l_m rfl ?_
  refine l_pass rfl ?_
  refine l_pass rfl ?_
  refine l_pass rfl ?_
  refine l_pass rfl ?_
  refine l_pass rfl ?_
  refine l_pass rfl ?_
  refine l_pass rfl ?_
  refine l_pass rfl ?_
  refine l_x rfl (x_pick_t rfl rfl) ?_
  refine l_nil ?_
  refine r_true rfl ?_
  refine r_seq ?_
  refine r_region ?_
  refine l_a rfl ?_
  refine l_nil ?_
  refine r_ret (rs := [.tmp 2]) [_] Tryz.func48 rfl ⟨rfl, trivial⟩ ?_
  exact ⟨congrArg (Value.int .i64) (by rw [formed_ref, if_neg (by rw [headR, decide_eq_false (by omega)]; simp)]), S2.le⟩
 refine l_x rfl (x_fieldAddr rfl Tryz.runUnderlying26 rfl Tryz.sizeOf3 (by decide)) ?_
 refine l_x rfl (x_load rfl (ld_blk (S2.blk 0 rfl) Tryz.isAgg3 rfl)) ?_
 refine l_x rfl (x_gtr rfl rfl) ?_
 refine l_x rfl (x_pick_f rfl rfl) ?_
 refine l_m rfl ?_
 refine l_splitd (d := 32) rfl (fun hg32 => ?_) (fun hg32 => ?_)
 ·skip
  refine l_pass rfl ?_
  refine l_pass rfl ?_
  refine l_pass rfl ?_
  refine l_x rfl (x_pick_t rfl rfl) ?_
  refine l_m rfl ?_
  refine l_pass rfl ?_
  refine l_pass rfl ?_
  refine l_pass rfl ?_
  refine l_x rfl (x_pick_t rfl rfl) ?_
  refine l_m rfl ?_
  refine l_pass rfl ?_
  refine l_pass rfl ?_
  refine l_pass rfl ?_
  refine l_pass rfl ?_
  refine l_pass rfl ?_
  refine l_pass rfl ?_
  refine l_pass rfl ?_
  refine l_pass rfl ?_
  refine l_x rfl (x_pick_t rfl rfl) ?_
  refine l_nil ?_
  refine r_true rfl ?_
  refine r_seq ?_
  refine r_region ?_
  refine l_a rfl ?_
  refine l_nil ?_
  refine r_ret (rs := [.tmp 2]) [_] Tryz.func48 rfl ⟨rfl, trivial⟩ ?_
  exact ⟨congrArg (Value.int .i64) (by rw [formed_ref, if_neg (by rw [headR, decide_eq_false (by omega)]; simp)]), S2.le⟩
 refine l_x rfl (x_fieldAddr rfl Tryz.runUnderlying26 rfl Tryz.sizeOf3 (by decide)) ?_
 refine l_x rfl (x_load rfl (ld_blk (S2.blk 0 rfl) Tryz.isAgg3 rfl)) ?_
 refine l_x rfl (x_lss rfl rfl) ?_
 refine l_x rfl (x_pick_f rfl rfl) ?_
 refine l_m rfl ?_
 refine l_splitd (d := 37) rfl (fun hg37 => ?_) (fun hg37 => ?_)
 ·skip
  refine l_pass rfl ?_
  refine l_pass rfl ?_
  refine l_pass rfl ?_
  refine l_x rfl (x_pick_t rfl rfl) ?_
  refine l_m rfl ?_
  refine l_pass rfl ?_
  refine l_pass rfl ?_
  refine l_pass rfl ?_
  refine l_pass rfl ?_
  refine l_pass rfl ?_
  refine l_pass rfl ?_
  refine l_pass rfl ?_
  refine l_pass rfl ?_
  refine l_x rfl (x_pick_t rfl rfl) ?_
  refine l_nil ?_
  refine r_true rfl ?_
  refine r_seq ?_
  refine r_region ?_
  refine l_a rfl ?_
  refine l_nil ?_
  refine r_ret (rs := [.tmp 2]) [_] Tryz.func48 rfl ⟨rfl, trivial⟩ ?_
  exact ⟨congrArg (Value.int .i64) (by rw [formed_ref, if_neg (by rw [headR, decide_eq_false (by omega)]; simp)]), S2.le⟩
 refine l_x rfl (x_fieldAddr rfl Tryz.runUnderlying26 rfl Tryz.sizeOf3 (by decide)) ?_
 refine l_x rfl (x_load rfl (ld_blk (S2.blk 0 rfl) Tryz.isAgg3 rfl)) ?_
 refine l_x rfl (x_gtr rfl rfl) ?_
 refine l_x rfl (x_pick_f rfl rfl) ?_
 refine l_m rfl ?_
 refine l_splitd (d := 42) rfl (fun hg42 => ?_) (fun hg42 => ?_)
 ·skip
  refine l_pass rfl ?_
  refine l_pass rfl ?_
  refine l_pass rfl ?_
  refine l_pass rfl ?_
  refine l_pass rfl ?_
  refine l_pass rfl ?_
  refine l_pass rfl ?_
  refine l_pass rfl ?_
  refine l_x rfl (x_pick_t rfl rfl) ?_
  refine l_nil ?_
  refine r_true rfl ?_
  refine r_seq ?_
  refine r_region ?_
  refine l_a rfl ?_
  refine l_nil ?_
  refine r_ret (rs := [.tmp 2]) [_] Tryz.func48 rfl ⟨rfl, trivial⟩ ?_
  exact ⟨congrArg (Value.int .i64) (by rw [formed_ref, if_neg (by rw [headR, decide_eq_false (by omega)]; simp)]), S2.le⟩
 refine l_x rfl (x_fieldAddr rfl Tryz.runUnderlying26 rfl Tryz.sizeOf5 (by decide)) ?_
 refine l_x rfl (x_load rfl (ld_blk (S2.blk 0 rfl) Tryz.isAgg5 rfl)) ?_
 refine l_x rfl (x_eql rfl rfl) ?_
 refine l_m rfl ?_
 refine l_splitd (d := 46) rfl (fun hg46 => ?_) (fun hg46 => ?_)
 ·skip
  refine l_x rfl (x_fieldAddr rfl Tryz.runUnderlying26 rfl Tryz.sizeOf3 (by decide)) ?_
  refine l_x rfl (x_load rfl (ld_blk (S2.blk 0 rfl) Tryz.isAgg3 rfl)) ?_
  refine l_x rfl (x_neq rfl rfl) ?_
  refine l_x rfl (x_pick_t rfl rfl) ?_
  refine l_x rfl (x_pick_f rfl rfl) ?_
  refine l_nil ?_
  refine r_ifd rfl (fun hc51 => ?_) (fun hc51 => ?_)
  ·skip
   refine r_seq ?_
   refine r_region ?_
   refine l_a rfl ?_
   refine l_nil ?_
   refine r_ret (rs := [.tmp 2]) [_] Tryz.func48 rfl ⟨rfl, trivial⟩ ?_
   exact ⟨congrArg (Value.int .i64) (by rw [formed_ref, if_neg (by rw [headR, decide_eq_false (by omega)]; simp)]), S2.le⟩
  refine r_skip ?_
  refine r_seq ?_
  have hhead : headR a.1 = true := by rw [headR]; exact decide_eq_true (by omega)
  refine r_region ?_
  refine l_a rfl ?_
  refine l_nil ?_
  refine r_seq ?_
  refine r_seq ?_
  refine r_region ?_
  refine l_x rfl (x_fieldAddr rfl Tryz.runUnderlying26 rfl Tryz.sizeOf5 (by decide)) ?_
  refine l_x rfl (x_load rfl (ld_blk (S2.blk 0 rfl) Tryz.isAgg5 rfl)) ?_
  refine l_call [] [] [_, _] rfl rfl Tryz.call113 rfl (c_uses_from _ _) ?_
  rintro _ w5 ⟨rfl, hl7⟩
  have S6 := S2.step hl7
  refine l_nil ?_
  refine r_cutS S6 [(1, .pointer (some ⟨b4, 0, none⟩)), (3, .bool (fR1 a.1))] (True) (fun ρ w8 hp10 S9 => ?_) (fun HK11 => ?_)
  ·skip
   refine r_seq ?_
   refine r_seq ?_
   refine r_region ?_
   refine l_x rfl (x_fieldAddr rfl Tryz.runUnderlying26 rfl Tryz.sizeOf5 (by decide)) ?_
   refine l_x rfl (x_load rfl (ld_blk (S9.blk 0 rfl) Tryz.isAgg5 rfl)) ?_
   refine l_call [] [] [_, _] rfl rfl Tryz.call113 rfl (c_uses_to _ _) ?_
   rintro _ w12 ⟨rfl, hl14⟩
   have S13 := S9.step hl14
   refine l_nil ?_
   refine r_cutS S13 [(1, .pointer (some ⟨b4, 0, none⟩)), (3, .bool (fR2 a.1))] (True) (fun ρ w15 hp17 S16 => ?_) (fun HK18 => ?_)
   ·skip
    refine r_seq ?_
    refine r_seq ?_
    refine r_region ?_
    refine l_x rfl (x_fieldAddr rfl Tryz.runUnderlying26 rfl Tryz.sizeOf5 (by decide)) ?_
    refine l_x rfl (x_load rfl (ld_blk (S16.blk 0 rfl) Tryz.isAgg5 rfl)) ?_
    refine l_call [] [] [_, _] rfl rfl Tryz.call113 rfl (c_uses_parts _ _) ?_
    rintro _ w19 ⟨rfl, hl21⟩
    have S20 := S16.step hl21
    refine l_nil ?_
    refine r_cutS S20 [(1, .pointer (some ⟨b4, 0, none⟩)), (3, .bool (fR3 a.1))] (True) (fun ρ w22 hp24 S23 => ?_) (fun HK25 => ?_)
    ·skip
     refine r_seq ?_
     refine r_seq ?_
     refine r_region ?_
     refine l_x rfl (x_fieldAddr rfl Tryz.runUnderlying26 rfl Tryz.sizeOf5 (by decide)) ?_
     refine l_x rfl (x_load rfl (ld_blk (S23.blk 0 rfl) Tryz.isAgg5 rfl)) ?_
     refine l_call [] [] [_, _] rfl rfl Tryz.call113 rfl (c_uses_heirs _ _) ?_
     rintro _ w26 ⟨rfl, hl28⟩
     have S27 := S23.step hl28
     refine l_nil ?_
     refine r_cutS S27 [(1, .pointer (some ⟨b4, 0, none⟩)), (3, .bool (fR4 a.1))] (True) (fun ρ w29 hp31 S30 => ?_) (fun HK32 => ?_)
     ·skip
      refine r_seq ?_
      refine r_seq ?_
      refine r_region ?_
      refine l_x rfl (x_fieldAddr rfl Tryz.runUnderlying26 rfl Tryz.sizeOf5 (by decide)) ?_
      refine l_x rfl (x_load rfl (ld_blk (S30.blk 0 rfl) Tryz.isAgg5 rfl)) ?_
      refine l_call [] [] [_, _] rfl rfl Tryz.call113 rfl (c_uses_end _ _) ?_
      rintro _ w33 ⟨rfl, hl35⟩
      have S34 := S30.step hl35
      refine l_nil ?_
      refine r_cutS S34 [(1, .pointer (some ⟨b4, 0, none⟩)), (3, .bool (fR5 a.1))] (True) (fun ρ w36 hp38 S37 => ?_) (fun HK39 => ?_)
      ·skip
       refine r_seq ?_
       refine r_seq ?_
       refine r_region ?_
       refine l_x rfl (x_fieldAddr rfl Tryz.runUnderlying26 rfl Tryz.sizeOf5 (by decide)) ?_
       refine l_x rfl (x_load rfl (ld_blk (S37.blk 0 rfl) Tryz.isAgg5 rfl)) ?_
       refine l_call [] [] [_, _] rfl rfl Tryz.call113 rfl (c_uses_of _ _) ?_
       rintro _ w40 ⟨rfl, hl42⟩
       have S41 := S37.step hl42
       refine l_nil ?_
       refine r_cutS S41 [(1, .pointer (some ⟨b4, 0, none⟩)), (3, .bool (fR6 a.1))] (True) (fun ρ w43 hp45 S44 => ?_) (fun HK46 => ?_)
       ·skip
        refine r_seq ?_
        refine r_seq ?_
        refine r_region ?_
        refine l_m rfl ?_
        refine l_x rfl (x_not rfl) ?_
        refine l_nil ?_
        refine r_if rfl (fun hc175 => ?_) (fun hc175 => ?_)
        ·skip
         refine r_seq ?_
         refine r_region ?_
         refine l_a rfl ?_
         refine l_nil ?_
         refine r_ret (rs := [.tmp 2]) [_] Tryz.func48 rfl ⟨rfl, trivial⟩ ?_
         exact ⟨congrArg (Value.int .i64) (by rw [formed_ref, if_neg (by simp_all)]), S44.le⟩
        refine r_skip ?_
        refine r_seq ?_
        refine r_region ?_
        refine l_a rfl ?_
        refine l_nil ?_
        refine r_ret (rs := [.tmp 2]) [_] Tryz.func48 rfl ⟨rfl, trivial⟩ ?_
        exact ⟨congrArg (Value.int .i64) (by rw [formed_ref, if_pos (by simp_all)]), S44.le⟩
       refine r_ifd rfl (fun hc154 => ?_) (fun hc154 => ?_)
       ·skip
        refine r_region ?_
        refine l_m rfl ?_
        refine l_m rfl ?_
        refine l_split (d := 156) rfl (fun hg156 => ?_) (fun hg156 => ?_)
        ·skip
         refine l_x rfl (x_fieldAddr rfl Tryz.runUnderlying26 rfl Tryz.sizeOf3 (by decide)) ?_
         refine l_x rfl (x_load rfl (ld_blk (S41.blk 0 rfl) Tryz.isAgg3 rfl)) ?_
         refine l_x rfl (x_geq rfl rfl) ?_
         refine l_x rfl (x_pick_t rfl rfl) ?_
         refine l_m rfl ?_
         refine l_splitd (d := 161) rfl (fun hg161 => ?_) (fun hg161 => ?_)
         ·skip
          refine l_x rfl (x_fieldAddr rfl Tryz.runUnderlying26 rfl Tryz.sizeOf3 (by decide)) ?_
          refine l_x rfl (x_load rfl (ld_blk (S41.blk 0 rfl) Tryz.isAgg3 rfl)) ?_
          refine l_x rfl (x_fieldAddr rfl Tryz.runUnderlying26 rfl Tryz.sizeOf3 (by decide)) ?_
          refine l_x rfl (x_load rfl (ld_blk (S41.blk 0 rfl) Tryz.isAgg3 rfl)) ?_
          refine l_x rfl (x_lss rfl rfl) ?_
          refine l_x rfl (x_pick_t rfl rfl) ?_
          refine l_a rfl ?_
          refine l_nil ?_
          exact HK46 _ _ ⟨rfl, (congrArg Value.bool (by unfold fR6; first | (simp_all; done) | (simp_all; omega))), trivial⟩ trivial (S41.take 1)
         refine l_pass rfl ?_
         refine l_pass rfl ?_
         refine l_pass rfl ?_
         refine l_pass rfl ?_
         refine l_pass rfl ?_
         refine l_x rfl (x_pick_f rfl rfl) ?_
         refine l_a rfl ?_
         refine l_nil ?_
         exact HK46 _ _ ⟨rfl, (congrArg Value.bool (by unfold fR6; first | (simp_all; done) | (simp_all; omega))), trivial⟩ trivial (S41.take 1)
        refine l_pass rfl ?_
        refine l_pass rfl ?_
        refine l_pass rfl ?_
        refine l_x rfl (x_pick_f rfl rfl) ?_
        refine l_m rfl ?_
        refine l_pass rfl ?_
        refine l_pass rfl ?_
        refine l_pass rfl ?_
        refine l_pass rfl ?_
        refine l_pass rfl ?_
        refine l_x rfl (x_pick_f rfl rfl) ?_
        refine l_a rfl ?_
        refine l_nil ?_
        exact HK46 _ _ ⟨rfl, (congrArg Value.bool (by unfold fR6; first | (simp_all; done) | (simp_all; omega))), trivial⟩ trivial (S41.take 1)
       refine r_region ?_
       refine l_m rfl ?_
       refine l_m rfl ?_
       refine l_split (d := 169) rfl (fun hg169 => ?_) (fun hg169 => ?_)
       ·skip
        refine l_x rfl (x_fieldAddr rfl Tryz.runUnderlying26 rfl Tryz.sizeOf3 (by decide)) ?_
        refine l_x rfl (x_load rfl (ld_blk (S41.blk 0 rfl) Tryz.isAgg3 rfl)) ?_
        refine l_x rfl (x_eql rfl rfl) ?_
        refine l_x rfl (x_pick_t rfl rfl) ?_
        refine l_a rfl ?_
        refine l_nil ?_
        exact HK46 _ _ ⟨rfl, (congrArg Value.bool (by unfold fR6; first | (simp_all; done) | (simp_all; omega))), trivial⟩ trivial (S41.take 1)
       refine l_pass rfl ?_
       refine l_pass rfl ?_
       refine l_pass rfl ?_
       refine l_x rfl (x_pick_f rfl rfl) ?_
       refine l_a rfl ?_
       refine l_nil ?_
       exact HK46 _ _ ⟨rfl, (congrArg Value.bool (by unfold fR6; first | (simp_all; done) | (simp_all; omega))), trivial⟩ trivial (S41.take 1)
      refine r_ifd rfl (fun hc132 => ?_) (fun hc132 => ?_)
      ·skip
       refine r_region ?_
       refine l_m rfl ?_
       refine l_m rfl ?_
       refine l_split (d := 134) rfl (fun hg134 => ?_) (fun hg134 => ?_)
       ·skip
        refine l_x rfl (x_fieldAddr rfl Tryz.runUnderlying26 rfl Tryz.sizeOf3 (by decide)) ?_
        refine l_x rfl (x_load rfl (ld_blk (S34.blk 0 rfl) Tryz.isAgg3 rfl)) ?_
        refine l_x rfl (x_fieldAddr rfl Tryz.runUnderlying26 rfl Tryz.sizeOf3 (by decide)) ?_
        refine l_x rfl (x_load rfl (ld_blk (S34.blk 0 rfl) Tryz.isAgg3 rfl)) ?_
        refine l_x rfl (x_geq rfl rfl) ?_
        refine l_x rfl (x_pick_t rfl rfl) ?_
        refine l_m rfl ?_
        refine l_splitd (d := 141) rfl (fun hg141 => ?_) (fun hg141 => ?_)
        ·skip
         refine l_x rfl (x_fieldAddr rfl Tryz.runUnderlying26 rfl Tryz.sizeOf3 (by decide)) ?_
         refine l_x rfl (x_load rfl (ld_blk (S34.blk 0 rfl) Tryz.isAgg3 rfl)) ?_
         refine l_x rfl (x_leq rfl rfl) ?_
         refine l_x rfl (x_pick_t rfl rfl) ?_
         refine l_a rfl ?_
         refine l_nil ?_
         exact HK39 _ _ ⟨rfl, (congrArg Value.bool (by unfold fR5; first | (simp_all; done) | (simp_all; omega))), trivial⟩ trivial (S34.take 1)
        refine l_pass rfl ?_
        refine l_pass rfl ?_
        refine l_pass rfl ?_
        refine l_x rfl (x_pick_f rfl rfl) ?_
        refine l_a rfl ?_
        refine l_nil ?_
        exact HK39 _ _ ⟨rfl, (congrArg Value.bool (by unfold fR5; first | (simp_all; done) | (simp_all; omega))), trivial⟩ trivial (S34.take 1)
       refine l_pass rfl ?_
       refine l_pass rfl ?_
       refine l_pass rfl ?_
       refine l_pass rfl ?_
       refine l_pass rfl ?_
       refine l_x rfl (x_pick_f rfl rfl) ?_
       refine l_m rfl ?_
       refine l_pass rfl ?_
       refine l_pass rfl ?_
       refine l_pass rfl ?_
       refine l_x rfl (x_pick_f rfl rfl) ?_
       refine l_a rfl ?_
       refine l_nil ?_
       exact HK39 _ _ ⟨rfl, (congrArg Value.bool (by unfold fR5; first | (simp_all; done) | (simp_all; omega))), trivial⟩ trivial (S34.take 1)
      refine r_region ?_
      refine l_m rfl ?_
      refine l_m rfl ?_
      refine l_split (d := 147) rfl (fun hg147 => ?_) (fun hg147 => ?_)
      ·skip
       refine l_x rfl (x_fieldAddr rfl Tryz.runUnderlying26 rfl Tryz.sizeOf3 (by decide)) ?_
       refine l_x rfl (x_load rfl (ld_blk (S34.blk 0 rfl) Tryz.isAgg3 rfl)) ?_
       refine l_x rfl (x_eql rfl rfl) ?_
       refine l_x rfl (x_pick_t rfl rfl) ?_
       refine l_a rfl ?_
       refine l_nil ?_
       exact HK39 _ _ ⟨rfl, (congrArg Value.bool (by unfold fR5; first | (simp_all; done) | (simp_all; omega))), trivial⟩ trivial (S34.take 1)
      refine l_pass rfl ?_
      refine l_pass rfl ?_
      refine l_pass rfl ?_
      refine l_x rfl (x_pick_f rfl rfl) ?_
      refine l_a rfl ?_
      refine l_nil ?_
      exact HK39 _ _ ⟨rfl, (congrArg Value.bool (by unfold fR5; first | (simp_all; done) | (simp_all; omega))), trivial⟩ trivial (S34.take 1)
     refine r_ifd rfl (fun hc111 => ?_) (fun hc111 => ?_)
     ·skip
      refine r_region ?_
      refine l_m rfl ?_
      refine l_m rfl ?_
      refine l_split (d := 113) rfl (fun hg113 => ?_) (fun hg113 => ?_)
      ·skip
       refine l_x rfl (x_load rfl (ld_blks (S27.blk 0 rfl) Tryz.isAgg26 Tryz.sizeOf26 rfl rfl)) ?_
       refine l_call [] [] [_] rfl rfl Tryz.call114 rfl (c_rheirs a _ (hA.le S27.le)) ?_
       rintro _ w47 ⟨rfl, hl49⟩
       have S48 := S27.step hl49
       refine l_x rfl (x_pick_t rfl rfl) ?_
       refine l_a rfl ?_
       refine l_nil ?_
       exact HK32 _ _ ⟨rfl, (congrArg Value.bool (by unfold fR4; first | (simp_all; done) | (simp_all; omega))), trivial⟩ trivial (S48.take 1)
      refine l_pass rfl ?_
      refine l_pass rfl ?_
      refine l_x rfl (x_pick_f rfl rfl) ?_
      refine l_a rfl ?_
      refine l_nil ?_
      exact HK32 _ _ ⟨rfl, (congrArg Value.bool (by unfold fR4; first | (simp_all; done) | (simp_all; omega))), trivial⟩ trivial (S27.take 1)
     refine r_region ?_
     refine l_m rfl ?_
     refine l_m rfl ?_
     refine l_split (d := 118) rfl (fun hg118 => ?_) (fun hg118 => ?_)
     ·skip
      refine l_x rfl (x_fieldAddr rfl Tryz.runUnderlying26 rfl Tryz.sizeOf24 (by decide)) ?_
      refine l_x rfl (x_load rfl (ld_blk (S27.blk 0 rfl) Tryz.isAgg24 rfl)) ?_
      refine l_x rfl (x_len (hA.1.le S27.le) rfl Tryz.runUnderlying24) ?_
      refine l_x rfl (x_eql rfl rfl) ?_
      refine l_x rfl (x_pick_t rfl rfl) ?_
      refine l_m rfl ?_
      refine l_splitd (d := 124) rfl (fun hg124 => ?_) (fun hg124 => ?_)
      ·skip
       refine l_x rfl (x_fieldAddr rfl Tryz.runUnderlying26 rfl Tryz.sizeOf24 (by decide)) ?_
       refine l_x rfl (x_load rfl (ld_blk (S27.blk 0 rfl) Tryz.isAgg24 rfl)) ?_
       refine l_x rfl (x_len (hA.2.le S27.le) rfl Tryz.runUnderlying24) ?_
       refine l_x rfl (x_eql rfl rfl) ?_
       refine l_x rfl (x_pick_t rfl rfl) ?_
       refine l_a rfl ?_
       refine l_nil ?_
       exact HK32 _ _ ⟨rfl, (congrArg Value.bool (by unfold fR4; first | (simp_all; done) | (simp_all; omega))), trivial⟩ trivial (S27.take 1)
      refine l_pass rfl ?_
      refine l_pass rfl ?_
      refine l_pass rfl ?_
      refine l_pass rfl ?_
      refine l_x rfl (x_pick_f rfl rfl) ?_
      refine l_a rfl ?_
      refine l_nil ?_
      exact HK32 _ _ ⟨rfl, (congrArg Value.bool (by unfold fR4; first | (simp_all; done) | (simp_all; omega))), trivial⟩ trivial (S27.take 1)
     refine l_pass rfl ?_
     refine l_pass rfl ?_
     refine l_pass rfl ?_
     refine l_pass rfl ?_
     refine l_x rfl (x_pick_f rfl rfl) ?_
     refine l_m rfl ?_
     refine l_pass rfl ?_
     refine l_pass rfl ?_
     refine l_pass rfl ?_
     refine l_pass rfl ?_
     refine l_x rfl (x_pick_f rfl rfl) ?_
     refine l_a rfl ?_
     refine l_nil ?_
     exact HK32 _ _ ⟨rfl, (congrArg Value.bool (by unfold fR4; first | (simp_all; done) | (simp_all; omega))), trivial⟩ trivial (S27.take 1)
    refine r_ifd rfl (fun hc91 => ?_) (fun hc91 => ?_)
    ·skip
     refine r_region ?_
     refine l_m rfl ?_
     refine l_m rfl ?_
     refine l_split (d := 93) rfl (fun hg93 => ?_) (fun hg93 => ?_)
     ·skip
      refine l_x rfl (x_fieldAddr rfl Tryz.runUnderlying26 rfl Tryz.sizeOf3 (by decide)) ?_
      refine l_x rfl (x_load rfl (ld_blk (S20.blk 0 rfl) Tryz.isAgg3 rfl)) ?_
      refine l_x rfl (x_geq rfl rfl) ?_
      refine l_x rfl (x_pick_t rfl rfl) ?_
      refine l_m rfl ?_
      refine l_splitd (d := 98) rfl (fun hg98 => ?_) (fun hg98 => ?_)
      ·skip
       refine l_x rfl (x_fieldAddr rfl Tryz.runUnderlying26 rfl Tryz.sizeOf3 (by decide)) ?_
       refine l_x rfl (x_load rfl (ld_blk (S20.blk 0 rfl) Tryz.isAgg3 rfl)) ?_
       refine l_x rfl (x_leq rfl rfl) ?_
       refine l_x rfl (x_pick_t rfl rfl) ?_
       refine l_a rfl ?_
       refine l_nil ?_
       exact HK25 _ _ ⟨rfl, (congrArg Value.bool (by unfold fR3; first | (simp_all; done) | (simp_all; omega))), trivial⟩ trivial (S20.take 1)
      refine l_pass rfl ?_
      refine l_pass rfl ?_
      refine l_pass rfl ?_
      refine l_x rfl (x_pick_f rfl rfl) ?_
      refine l_a rfl ?_
      refine l_nil ?_
      exact HK25 _ _ ⟨rfl, (congrArg Value.bool (by unfold fR3; first | (simp_all; done) | (simp_all; omega))), trivial⟩ trivial (S20.take 1)
     refine l_pass rfl ?_
     refine l_pass rfl ?_
     refine l_pass rfl ?_
     refine l_x rfl (x_pick_f rfl rfl) ?_
     refine l_m rfl ?_
     refine l_pass rfl ?_
     refine l_pass rfl ?_
     refine l_pass rfl ?_
     refine l_x rfl (x_pick_f rfl rfl) ?_
     refine l_a rfl ?_
     refine l_nil ?_
     exact HK25 _ _ ⟨rfl, (congrArg Value.bool (by unfold fR3; first | (simp_all; done) | (simp_all; omega))), trivial⟩ trivial (S20.take 1)
    refine r_region ?_
    refine l_m rfl ?_
    refine l_m rfl ?_
    refine l_split (d := 104) rfl (fun hg104 => ?_) (fun hg104 => ?_)
    ·skip
     refine l_x rfl (x_fieldAddr rfl Tryz.runUnderlying26 rfl Tryz.sizeOf3 (by decide)) ?_
     refine l_x rfl (x_load rfl (ld_blk (S20.blk 0 rfl) Tryz.isAgg3 rfl)) ?_
     refine l_x rfl (x_eql rfl rfl) ?_
     refine l_x rfl (x_pick_t rfl rfl) ?_
     refine l_a rfl ?_
     refine l_nil ?_
     exact HK25 _ _ ⟨rfl, (congrArg Value.bool (by unfold fR3; first | (simp_all; done) | (simp_all; omega))), trivial⟩ trivial (S20.take 1)
    refine l_pass rfl ?_
    refine l_pass rfl ?_
    refine l_pass rfl ?_
    refine l_x rfl (x_pick_f rfl rfl) ?_
    refine l_a rfl ?_
    refine l_nil ?_
    exact HK25 _ _ ⟨rfl, (congrArg Value.bool (by unfold fR3; first | (simp_all; done) | (simp_all; omega))), trivial⟩ trivial (S20.take 1)
   refine r_ifd rfl (fun hc69 => ?_) (fun hc69 => ?_)
   ·skip
    refine r_region ?_
    refine l_m rfl ?_
    refine l_m rfl ?_
    refine l_split (d := 71) rfl (fun hg71 => ?_) (fun hg71 => ?_)
    ·skip
     refine l_x rfl (x_fieldAddr rfl Tryz.runUnderlying26 rfl Tryz.sizeOf3 (by decide)) ?_
     refine l_x rfl (x_load rfl (ld_blk (S13.blk 0 rfl) Tryz.isAgg3 rfl)) ?_
     refine l_call [] [] [_] rfl rfl Tryz.call86 rfl (c_rowner _ _) ?_
     rintro _ w50 ⟨rfl, hl52⟩
     have S51 := S13.step hl52
     refine l_x rfl (x_pick_t rfl rfl) ?_
     refine l_m rfl ?_
     refine l_split (d := 76) rfl (fun hg76 => ?_) (fun hg76 => ?_)
     ·skip
      refine l_x rfl (x_fieldAddr rfl Tryz.runUnderlying26 rfl Tryz.sizeOf3 (by decide)) ?_
      refine l_x rfl (x_load rfl (ld_blk (S51.blk 0 rfl) Tryz.isAgg3 rfl)) ?_
      refine l_x rfl (x_fieldAddr rfl Tryz.runUnderlying26 rfl Tryz.sizeOf3 (by decide)) ?_
      refine l_x rfl (x_load rfl (ld_blk (S51.blk 0 rfl) Tryz.isAgg3 rfl)) ?_
      refine l_x rfl (x_neq rfl rfl) ?_
      refine l_x rfl (x_pick_t rfl rfl) ?_
      refine l_a rfl ?_
      refine l_nil ?_
      exact HK18 _ _ ⟨rfl, (congrArg Value.bool (by unfold fR2; first | (simp_all; done) | (simp_all; omega))), trivial⟩ trivial (S51.take 1)
     refine l_pass rfl ?_
     refine l_pass rfl ?_
     refine l_pass rfl ?_
     refine l_pass rfl ?_
     refine l_pass rfl ?_
     refine l_x rfl (x_pick_f rfl rfl) ?_
     refine l_a rfl ?_
     refine l_nil ?_
     exact HK18 _ _ ⟨rfl, (congrArg Value.bool (by unfold fR2; first | (simp_all; done) | (simp_all; omega))), trivial⟩ trivial (S51.take 1)
    refine l_pass rfl ?_
    refine l_pass rfl ?_
    refine l_pass rfl ?_
    refine l_x rfl (x_pick_f rfl rfl) ?_
    refine l_m rfl ?_
    refine l_pass rfl ?_
    refine l_pass rfl ?_
    refine l_pass rfl ?_
    refine l_pass rfl ?_
    refine l_pass rfl ?_
    refine l_x rfl (x_pick_f rfl rfl) ?_
    refine l_a rfl ?_
    refine l_nil ?_
    exact HK18 _ _ ⟨rfl, (congrArg Value.bool (by unfold fR2; first | (simp_all; done) | (simp_all; omega))), trivial⟩ trivial (S13.take 1)
   refine r_region ?_
   refine l_m rfl ?_
   refine l_m rfl ?_
   refine l_split (d := 84) rfl (fun hg84 => ?_) (fun hg84 => ?_)
   ·skip
    refine l_x rfl (x_fieldAddr rfl Tryz.runUnderlying26 rfl Tryz.sizeOf3 (by decide)) ?_
    refine l_x rfl (x_load rfl (ld_blk (S13.blk 0 rfl) Tryz.isAgg3 rfl)) ?_
    refine l_x rfl (x_eql rfl rfl) ?_
    refine l_x rfl (x_pick_t rfl rfl) ?_
    refine l_a rfl ?_
    refine l_nil ?_
    exact HK18 _ _ ⟨rfl, (congrArg Value.bool (by unfold fR2; first | (simp_all; done) | (simp_all; omega))), trivial⟩ trivial (S13.take 1)
   refine l_pass rfl ?_
   refine l_pass rfl ?_
   refine l_pass rfl ?_
   refine l_x rfl (x_pick_f rfl rfl) ?_
   refine l_a rfl ?_
   refine l_nil ?_
   exact HK18 _ _ ⟨rfl, (congrArg Value.bool (by unfold fR2; first | (simp_all; done) | (simp_all; omega))), trivial⟩ trivial (S13.take 1)
  refine r_ifd rfl (fun hc54 => ?_) (fun hc54 => ?_)
  ·skip
   refine r_region ?_
   refine l_m rfl ?_
   refine l_m rfl ?_
   refine l_x rfl (x_fieldAddr rfl Tryz.runUnderlying26 rfl Tryz.sizeOf3 (by decide)) ?_
   refine l_x rfl (x_load rfl (ld_blk (S6.blk 0 rfl) Tryz.isAgg3 rfl)) ?_
   refine l_call [] [] [_] rfl rfl Tryz.call86 rfl (c_rowner _ _) ?_
   rintro _ w53 ⟨rfl, hl55⟩
   have S54 := S6.step hl55
   refine l_x rfl (x_pick_t rfl rfl) ?_
   refine l_a rfl ?_
   refine l_nil ?_
   exact HK11 _ _ ⟨rfl, (congrArg Value.bool (by unfold fR1; first | (simp_all; done) | (simp_all; omega))), trivial⟩ trivial (S54.take 1)
  refine r_region ?_
  refine l_m rfl ?_
  refine l_m rfl ?_
  refine l_x rfl (x_fieldAddr rfl Tryz.runUnderlying26 rfl Tryz.sizeOf3 (by decide)) ?_
  refine l_x rfl (x_load rfl (ld_blk (S6.blk 0 rfl) Tryz.isAgg3 rfl)) ?_
  refine l_x rfl (x_eql rfl rfl) ?_
  refine l_x rfl (x_pick_t rfl rfl) ?_
  refine l_a rfl ?_
  refine l_nil ?_
  exact HK11 _ _ ⟨rfl, (congrArg Value.bool (by unfold fR1; first | (simp_all; done) | (simp_all; omega))), trivial⟩ trivial (S6.take 1)
 refine l_pass rfl ?_
 refine l_pass rfl ?_
 refine l_pass rfl ?_
 refine l_x rfl (x_pick_f rfl rfl) ?_
 refine l_x rfl (x_pick_f rfl rfl) ?_
 refine l_nil ?_
 refine r_false rfl ?_
 refine r_skip ?_
 refine r_seq ?_
 have hhead : headR a.1 = true := by rw [headR]; exact decide_eq_true (by omega)
 refine r_region ?_
 refine l_a rfl ?_
 refine l_nil ?_
 refine r_seq ?_
 refine r_seq ?_
 refine r_region ?_
 refine l_x rfl (x_fieldAddr rfl Tryz.runUnderlying26 rfl Tryz.sizeOf5 (by decide)) ?_
 refine l_x rfl (x_load rfl (ld_blk (S2.blk 0 rfl) Tryz.isAgg5 rfl)) ?_
 refine l_call [] [] [_, _] rfl rfl Tryz.call113 rfl (c_uses_from _ _) ?_
 rintro _ w56 ⟨rfl, hl58⟩
 have S57 := S2.step hl58
 refine l_nil ?_
 refine r_cutS S57 [(1, .pointer (some ⟨b4, 0, none⟩)), (3, .bool (fR1 a.1))] (True) (fun ρ w59 hp61 S60 => ?_) (fun HK62 => ?_)
 ·skip
  refine r_seq ?_
  refine r_seq ?_
  refine r_region ?_
  refine l_x rfl (x_fieldAddr rfl Tryz.runUnderlying26 rfl Tryz.sizeOf5 (by decide)) ?_
  refine l_x rfl (x_load rfl (ld_blk (S60.blk 0 rfl) Tryz.isAgg5 rfl)) ?_
  refine l_call [] [] [_, _] rfl rfl Tryz.call113 rfl (c_uses_to _ _) ?_
  rintro _ w63 ⟨rfl, hl65⟩
  have S64 := S60.step hl65
  refine l_nil ?_
  refine r_cutS S64 [(1, .pointer (some ⟨b4, 0, none⟩)), (3, .bool (fR2 a.1))] (True) (fun ρ w66 hp68 S67 => ?_) (fun HK69 => ?_)
  ·skip
   refine r_seq ?_
   refine r_seq ?_
   refine r_region ?_
   refine l_x rfl (x_fieldAddr rfl Tryz.runUnderlying26 rfl Tryz.sizeOf5 (by decide)) ?_
   refine l_x rfl (x_load rfl (ld_blk (S67.blk 0 rfl) Tryz.isAgg5 rfl)) ?_
   refine l_call [] [] [_, _] rfl rfl Tryz.call113 rfl (c_uses_parts _ _) ?_
   rintro _ w70 ⟨rfl, hl72⟩
   have S71 := S67.step hl72
   refine l_nil ?_
   refine r_cutS S71 [(1, .pointer (some ⟨b4, 0, none⟩)), (3, .bool (fR3 a.1))] (True) (fun ρ w73 hp75 S74 => ?_) (fun HK76 => ?_)
   ·skip
    refine r_seq ?_
    refine r_seq ?_
    refine r_region ?_
    refine l_x rfl (x_fieldAddr rfl Tryz.runUnderlying26 rfl Tryz.sizeOf5 (by decide)) ?_
    refine l_x rfl (x_load rfl (ld_blk (S74.blk 0 rfl) Tryz.isAgg5 rfl)) ?_
    refine l_call [] [] [_, _] rfl rfl Tryz.call113 rfl (c_uses_heirs _ _) ?_
    rintro _ w77 ⟨rfl, hl79⟩
    have S78 := S74.step hl79
    refine l_nil ?_
    refine r_cutS S78 [(1, .pointer (some ⟨b4, 0, none⟩)), (3, .bool (fR4 a.1))] (True) (fun ρ w80 hp82 S81 => ?_) (fun HK83 => ?_)
    ·skip
     refine r_seq ?_
     refine r_seq ?_
     refine r_region ?_
     refine l_x rfl (x_fieldAddr rfl Tryz.runUnderlying26 rfl Tryz.sizeOf5 (by decide)) ?_
     refine l_x rfl (x_load rfl (ld_blk (S81.blk 0 rfl) Tryz.isAgg5 rfl)) ?_
     refine l_call [] [] [_, _] rfl rfl Tryz.call113 rfl (c_uses_end _ _) ?_
     rintro _ w84 ⟨rfl, hl86⟩
     have S85 := S81.step hl86
     refine l_nil ?_
     refine r_cutS S85 [(1, .pointer (some ⟨b4, 0, none⟩)), (3, .bool (fR5 a.1))] (True) (fun ρ w87 hp89 S88 => ?_) (fun HK90 => ?_)
     ·skip
      refine r_seq ?_
      refine r_seq ?_
      refine r_region ?_
      refine l_x rfl (x_fieldAddr rfl Tryz.runUnderlying26 rfl Tryz.sizeOf5 (by decide)) ?_
      refine l_x rfl (x_load rfl (ld_blk (S88.blk 0 rfl) Tryz.isAgg5 rfl)) ?_
      refine l_call [] [] [_, _] rfl rfl Tryz.call113 rfl (c_uses_of _ _) ?_
      rintro _ w91 ⟨rfl, hl93⟩
      have S92 := S88.step hl93
      refine l_nil ?_
      refine r_cutS S92 [(1, .pointer (some ⟨b4, 0, none⟩)), (3, .bool (fR6 a.1))] (True) (fun ρ w94 hp96 S95 => ?_) (fun HK97 => ?_)
      ·skip
       refine r_seq ?_
       refine r_seq ?_
       refine r_region ?_
       refine l_m rfl ?_
       refine l_x rfl (x_not rfl) ?_
       refine l_nil ?_
       refine r_if rfl (fun hc175 => ?_) (fun hc175 => ?_)
       ·skip
        refine r_seq ?_
        refine r_region ?_
        refine l_a rfl ?_
        refine l_nil ?_
        refine r_ret (rs := [.tmp 2]) [_] Tryz.func48 rfl ⟨rfl, trivial⟩ ?_
        exact ⟨congrArg (Value.int .i64) (by rw [formed_ref, if_neg (by simp_all)]), S95.le⟩
       refine r_skip ?_
       refine r_seq ?_
       refine r_region ?_
       refine l_a rfl ?_
       refine l_nil ?_
       refine r_ret (rs := [.tmp 2]) [_] Tryz.func48 rfl ⟨rfl, trivial⟩ ?_
       exact ⟨congrArg (Value.int .i64) (by rw [formed_ref, if_pos (by simp_all)]), S95.le⟩
      refine r_ifd rfl (fun hc154 => ?_) (fun hc154 => ?_)
      ·skip
       refine r_region ?_
       refine l_m rfl ?_
       refine l_m rfl ?_
       refine l_split (d := 156) rfl (fun hg156 => ?_) (fun hg156 => ?_)
       ·skip
        refine l_x rfl (x_fieldAddr rfl Tryz.runUnderlying26 rfl Tryz.sizeOf3 (by decide)) ?_
        refine l_x rfl (x_load rfl (ld_blk (S92.blk 0 rfl) Tryz.isAgg3 rfl)) ?_
        refine l_x rfl (x_geq rfl rfl) ?_
        refine l_x rfl (x_pick_t rfl rfl) ?_
        refine l_m rfl ?_
        refine l_splitd (d := 161) rfl (fun hg161 => ?_) (fun hg161 => ?_)
        ·skip
         refine l_x rfl (x_fieldAddr rfl Tryz.runUnderlying26 rfl Tryz.sizeOf3 (by decide)) ?_
         refine l_x rfl (x_load rfl (ld_blk (S92.blk 0 rfl) Tryz.isAgg3 rfl)) ?_
         refine l_x rfl (x_fieldAddr rfl Tryz.runUnderlying26 rfl Tryz.sizeOf3 (by decide)) ?_
         refine l_x rfl (x_load rfl (ld_blk (S92.blk 0 rfl) Tryz.isAgg3 rfl)) ?_
         refine l_x rfl (x_lss rfl rfl) ?_
         refine l_x rfl (x_pick_t rfl rfl) ?_
         refine l_a rfl ?_
         refine l_nil ?_
         exact HK97 _ _ ⟨rfl, (congrArg Value.bool (by unfold fR6; first | (simp_all; done) | (simp_all; omega))), trivial⟩ trivial (S92.take 1)
        refine l_pass rfl ?_
        refine l_pass rfl ?_
        refine l_pass rfl ?_
        refine l_pass rfl ?_
        refine l_pass rfl ?_
        refine l_x rfl (x_pick_f rfl rfl) ?_
        refine l_a rfl ?_
        refine l_nil ?_
        exact HK97 _ _ ⟨rfl, (congrArg Value.bool (by unfold fR6; first | (simp_all; done) | (simp_all; omega))), trivial⟩ trivial (S92.take 1)
       refine l_pass rfl ?_
       refine l_pass rfl ?_
       refine l_pass rfl ?_
       refine l_x rfl (x_pick_f rfl rfl) ?_
       refine l_m rfl ?_
       refine l_pass rfl ?_
       refine l_pass rfl ?_
       refine l_pass rfl ?_
       refine l_pass rfl ?_
       refine l_pass rfl ?_
       refine l_x rfl (x_pick_f rfl rfl) ?_
       refine l_a rfl ?_
       refine l_nil ?_
       exact HK97 _ _ ⟨rfl, (congrArg Value.bool (by unfold fR6; first | (simp_all; done) | (simp_all; omega))), trivial⟩ trivial (S92.take 1)
      refine r_region ?_
      refine l_m rfl ?_
      refine l_m rfl ?_
      refine l_split (d := 169) rfl (fun hg169 => ?_) (fun hg169 => ?_)
      ·skip
       refine l_x rfl (x_fieldAddr rfl Tryz.runUnderlying26 rfl Tryz.sizeOf3 (by decide)) ?_
       refine l_x rfl (x_load rfl (ld_blk (S92.blk 0 rfl) Tryz.isAgg3 rfl)) ?_
       refine l_x rfl (x_eql rfl rfl) ?_
       refine l_x rfl (x_pick_t rfl rfl) ?_
       refine l_a rfl ?_
       refine l_nil ?_
       exact HK97 _ _ ⟨rfl, (congrArg Value.bool (by unfold fR6; first | (simp_all; done) | (simp_all; omega))), trivial⟩ trivial (S92.take 1)
      refine l_pass rfl ?_
      refine l_pass rfl ?_
      refine l_pass rfl ?_
      refine l_x rfl (x_pick_f rfl rfl) ?_
      refine l_a rfl ?_
      refine l_nil ?_
      exact HK97 _ _ ⟨rfl, (congrArg Value.bool (by unfold fR6; first | (simp_all; done) | (simp_all; omega))), trivial⟩ trivial (S92.take 1)
     refine r_ifd rfl (fun hc132 => ?_) (fun hc132 => ?_)
     ·skip
      refine r_region ?_
      refine l_m rfl ?_
      refine l_m rfl ?_
      refine l_split (d := 134) rfl (fun hg134 => ?_) (fun hg134 => ?_)
      ·skip
       refine l_x rfl (x_fieldAddr rfl Tryz.runUnderlying26 rfl Tryz.sizeOf3 (by decide)) ?_
       refine l_x rfl (x_load rfl (ld_blk (S85.blk 0 rfl) Tryz.isAgg3 rfl)) ?_
       refine l_x rfl (x_fieldAddr rfl Tryz.runUnderlying26 rfl Tryz.sizeOf3 (by decide)) ?_
       refine l_x rfl (x_load rfl (ld_blk (S85.blk 0 rfl) Tryz.isAgg3 rfl)) ?_
       refine l_x rfl (x_geq rfl rfl) ?_
       refine l_x rfl (x_pick_t rfl rfl) ?_
       refine l_m rfl ?_
       refine l_splitd (d := 141) rfl (fun hg141 => ?_) (fun hg141 => ?_)
       ·skip
        refine l_x rfl (x_fieldAddr rfl Tryz.runUnderlying26 rfl Tryz.sizeOf3 (by decide)) ?_
        refine l_x rfl (x_load rfl (ld_blk (S85.blk 0 rfl) Tryz.isAgg3 rfl)) ?_
        refine l_x rfl (x_leq rfl rfl) ?_
        refine l_x rfl (x_pick_t rfl rfl) ?_
        refine l_a rfl ?_
        refine l_nil ?_
        exact HK90 _ _ ⟨rfl, (congrArg Value.bool (by unfold fR5; first | (simp_all; done) | (simp_all; omega))), trivial⟩ trivial (S85.take 1)
       refine l_pass rfl ?_
       refine l_pass rfl ?_
       refine l_pass rfl ?_
       refine l_x rfl (x_pick_f rfl rfl) ?_
       refine l_a rfl ?_
       refine l_nil ?_
       exact HK90 _ _ ⟨rfl, (congrArg Value.bool (by unfold fR5; first | (simp_all; done) | (simp_all; omega))), trivial⟩ trivial (S85.take 1)
      refine l_pass rfl ?_
      refine l_pass rfl ?_
      refine l_pass rfl ?_
      refine l_pass rfl ?_
      refine l_pass rfl ?_
      refine l_x rfl (x_pick_f rfl rfl) ?_
      refine l_m rfl ?_
      refine l_pass rfl ?_
      refine l_pass rfl ?_
      refine l_pass rfl ?_
      refine l_x rfl (x_pick_f rfl rfl) ?_
      refine l_a rfl ?_
      refine l_nil ?_
      exact HK90 _ _ ⟨rfl, (congrArg Value.bool (by unfold fR5; first | (simp_all; done) | (simp_all; omega))), trivial⟩ trivial (S85.take 1)
     refine r_region ?_
     refine l_m rfl ?_
     refine l_m rfl ?_
     refine l_split (d := 147) rfl (fun hg147 => ?_) (fun hg147 => ?_)
     ·skip
      refine l_x rfl (x_fieldAddr rfl Tryz.runUnderlying26 rfl Tryz.sizeOf3 (by decide)) ?_
      refine l_x rfl (x_load rfl (ld_blk (S85.blk 0 rfl) Tryz.isAgg3 rfl)) ?_
      refine l_x rfl (x_eql rfl rfl) ?_
      refine l_x rfl (x_pick_t rfl rfl) ?_
      refine l_a rfl ?_
      refine l_nil ?_
      exact HK90 _ _ ⟨rfl, (congrArg Value.bool (by unfold fR5; first | (simp_all; done) | (simp_all; omega))), trivial⟩ trivial (S85.take 1)
     refine l_pass rfl ?_
     refine l_pass rfl ?_
     refine l_pass rfl ?_
     refine l_x rfl (x_pick_f rfl rfl) ?_
     refine l_a rfl ?_
     refine l_nil ?_
     exact HK90 _ _ ⟨rfl, (congrArg Value.bool (by unfold fR5; first | (simp_all; done) | (simp_all; omega))), trivial⟩ trivial (S85.take 1)
    refine r_ifd rfl (fun hc111 => ?_) (fun hc111 => ?_)
    ·skip
     refine r_region ?_
     refine l_m rfl ?_
     refine l_m rfl ?_
     refine l_split (d := 113) rfl (fun hg113 => ?_) (fun hg113 => ?_)
     ·skip
      refine l_x rfl (x_load rfl (ld_blks (S78.blk 0 rfl) Tryz.isAgg26 Tryz.sizeOf26 rfl rfl)) ?_
      refine l_call [] [] [_] rfl rfl Tryz.call114 rfl (c_rheirs a _ (hA.le S78.le)) ?_
      rintro _ w98 ⟨rfl, hl100⟩
      have S99 := S78.step hl100
      refine l_x rfl (x_pick_t rfl rfl) ?_
      refine l_a rfl ?_
      refine l_nil ?_
      exact HK83 _ _ ⟨rfl, (congrArg Value.bool (by unfold fR4; first | (simp_all; done) | (simp_all; omega))), trivial⟩ trivial (S99.take 1)
     refine l_pass rfl ?_
     refine l_pass rfl ?_
     refine l_x rfl (x_pick_f rfl rfl) ?_
     refine l_a rfl ?_
     refine l_nil ?_
     exact HK83 _ _ ⟨rfl, (congrArg Value.bool (by unfold fR4; first | (simp_all; done) | (simp_all; omega))), trivial⟩ trivial (S78.take 1)
    refine r_region ?_
    refine l_m rfl ?_
    refine l_m rfl ?_
    refine l_split (d := 118) rfl (fun hg118 => ?_) (fun hg118 => ?_)
    ·skip
     refine l_x rfl (x_fieldAddr rfl Tryz.runUnderlying26 rfl Tryz.sizeOf24 (by decide)) ?_
     refine l_x rfl (x_load rfl (ld_blk (S78.blk 0 rfl) Tryz.isAgg24 rfl)) ?_
     refine l_x rfl (x_len (hA.1.le S78.le) rfl Tryz.runUnderlying24) ?_
     refine l_x rfl (x_eql rfl rfl) ?_
     refine l_x rfl (x_pick_t rfl rfl) ?_
     refine l_m rfl ?_
     refine l_splitd (d := 124) rfl (fun hg124 => ?_) (fun hg124 => ?_)
     ·skip
      refine l_x rfl (x_fieldAddr rfl Tryz.runUnderlying26 rfl Tryz.sizeOf24 (by decide)) ?_
      refine l_x rfl (x_load rfl (ld_blk (S78.blk 0 rfl) Tryz.isAgg24 rfl)) ?_
      refine l_x rfl (x_len (hA.2.le S78.le) rfl Tryz.runUnderlying24) ?_
      refine l_x rfl (x_eql rfl rfl) ?_
      refine l_x rfl (x_pick_t rfl rfl) ?_
      refine l_a rfl ?_
      refine l_nil ?_
      exact HK83 _ _ ⟨rfl, (congrArg Value.bool (by unfold fR4; first | (simp_all; done) | (simp_all; omega))), trivial⟩ trivial (S78.take 1)
     refine l_pass rfl ?_
     refine l_pass rfl ?_
     refine l_pass rfl ?_
     refine l_pass rfl ?_
     refine l_x rfl (x_pick_f rfl rfl) ?_
     refine l_a rfl ?_
     refine l_nil ?_
     exact HK83 _ _ ⟨rfl, (congrArg Value.bool (by unfold fR4; first | (simp_all; done) | (simp_all; omega))), trivial⟩ trivial (S78.take 1)
    refine l_pass rfl ?_
    refine l_pass rfl ?_
    refine l_pass rfl ?_
    refine l_pass rfl ?_
    refine l_x rfl (x_pick_f rfl rfl) ?_
    refine l_m rfl ?_
    refine l_pass rfl ?_
    refine l_pass rfl ?_
    refine l_pass rfl ?_
    refine l_pass rfl ?_
    refine l_x rfl (x_pick_f rfl rfl) ?_
    refine l_a rfl ?_
    refine l_nil ?_
    exact HK83 _ _ ⟨rfl, (congrArg Value.bool (by unfold fR4; first | (simp_all; done) | (simp_all; omega))), trivial⟩ trivial (S78.take 1)
   refine r_ifd rfl (fun hc91 => ?_) (fun hc91 => ?_)
   ·skip
    refine r_region ?_
    refine l_m rfl ?_
    refine l_m rfl ?_
    refine l_split (d := 93) rfl (fun hg93 => ?_) (fun hg93 => ?_)
    ·skip
     refine l_x rfl (x_fieldAddr rfl Tryz.runUnderlying26 rfl Tryz.sizeOf3 (by decide)) ?_
     refine l_x rfl (x_load rfl (ld_blk (S71.blk 0 rfl) Tryz.isAgg3 rfl)) ?_
     refine l_x rfl (x_geq rfl rfl) ?_
     refine l_x rfl (x_pick_t rfl rfl) ?_
     refine l_m rfl ?_
     refine l_splitd (d := 98) rfl (fun hg98 => ?_) (fun hg98 => ?_)
     ·skip
      refine l_x rfl (x_fieldAddr rfl Tryz.runUnderlying26 rfl Tryz.sizeOf3 (by decide)) ?_
      refine l_x rfl (x_load rfl (ld_blk (S71.blk 0 rfl) Tryz.isAgg3 rfl)) ?_
      refine l_x rfl (x_leq rfl rfl) ?_
      refine l_x rfl (x_pick_t rfl rfl) ?_
      refine l_a rfl ?_
      refine l_nil ?_
      exact HK76 _ _ ⟨rfl, (congrArg Value.bool (by unfold fR3; first | (simp_all; done) | (simp_all; omega))), trivial⟩ trivial (S71.take 1)
     refine l_pass rfl ?_
     refine l_pass rfl ?_
     refine l_pass rfl ?_
     refine l_x rfl (x_pick_f rfl rfl) ?_
     refine l_a rfl ?_
     refine l_nil ?_
     exact HK76 _ _ ⟨rfl, (congrArg Value.bool (by unfold fR3; first | (simp_all; done) | (simp_all; omega))), trivial⟩ trivial (S71.take 1)
    refine l_pass rfl ?_
    refine l_pass rfl ?_
    refine l_pass rfl ?_
    refine l_x rfl (x_pick_f rfl rfl) ?_
    refine l_m rfl ?_
    refine l_pass rfl ?_
    refine l_pass rfl ?_
    refine l_pass rfl ?_
    refine l_x rfl (x_pick_f rfl rfl) ?_
    refine l_a rfl ?_
    refine l_nil ?_
    exact HK76 _ _ ⟨rfl, (congrArg Value.bool (by unfold fR3; first | (simp_all; done) | (simp_all; omega))), trivial⟩ trivial (S71.take 1)
   refine r_region ?_
   refine l_m rfl ?_
   refine l_m rfl ?_
   refine l_split (d := 104) rfl (fun hg104 => ?_) (fun hg104 => ?_)
   ·skip
    refine l_x rfl (x_fieldAddr rfl Tryz.runUnderlying26 rfl Tryz.sizeOf3 (by decide)) ?_
    refine l_x rfl (x_load rfl (ld_blk (S71.blk 0 rfl) Tryz.isAgg3 rfl)) ?_
    refine l_x rfl (x_eql rfl rfl) ?_
    refine l_x rfl (x_pick_t rfl rfl) ?_
    refine l_a rfl ?_
    refine l_nil ?_
    exact HK76 _ _ ⟨rfl, (congrArg Value.bool (by unfold fR3; first | (simp_all; done) | (simp_all; omega))), trivial⟩ trivial (S71.take 1)
   refine l_pass rfl ?_
   refine l_pass rfl ?_
   refine l_pass rfl ?_
   refine l_x rfl (x_pick_f rfl rfl) ?_
   refine l_a rfl ?_
   refine l_nil ?_
   exact HK76 _ _ ⟨rfl, (congrArg Value.bool (by unfold fR3; first | (simp_all; done) | (simp_all; omega))), trivial⟩ trivial (S71.take 1)
  refine r_ifd rfl (fun hc69 => ?_) (fun hc69 => ?_)
  ·skip
   refine r_region ?_
   refine l_m rfl ?_
   refine l_m rfl ?_
   refine l_split (d := 71) rfl (fun hg71 => ?_) (fun hg71 => ?_)
   ·skip
    refine l_x rfl (x_fieldAddr rfl Tryz.runUnderlying26 rfl Tryz.sizeOf3 (by decide)) ?_
    refine l_x rfl (x_load rfl (ld_blk (S64.blk 0 rfl) Tryz.isAgg3 rfl)) ?_
    refine l_call [] [] [_] rfl rfl Tryz.call86 rfl (c_rowner _ _) ?_
    rintro _ w101 ⟨rfl, hl103⟩
    have S102 := S64.step hl103
    refine l_x rfl (x_pick_t rfl rfl) ?_
    refine l_m rfl ?_
    refine l_split (d := 76) rfl (fun hg76 => ?_) (fun hg76 => ?_)
    ·skip
     refine l_x rfl (x_fieldAddr rfl Tryz.runUnderlying26 rfl Tryz.sizeOf3 (by decide)) ?_
     refine l_x rfl (x_load rfl (ld_blk (S102.blk 0 rfl) Tryz.isAgg3 rfl)) ?_
     refine l_x rfl (x_fieldAddr rfl Tryz.runUnderlying26 rfl Tryz.sizeOf3 (by decide)) ?_
     refine l_x rfl (x_load rfl (ld_blk (S102.blk 0 rfl) Tryz.isAgg3 rfl)) ?_
     refine l_x rfl (x_neq rfl rfl) ?_
     refine l_x rfl (x_pick_t rfl rfl) ?_
     refine l_a rfl ?_
     refine l_nil ?_
     exact HK69 _ _ ⟨rfl, (congrArg Value.bool (by unfold fR2; first | (simp_all; done) | (simp_all; omega))), trivial⟩ trivial (S102.take 1)
    refine l_pass rfl ?_
    refine l_pass rfl ?_
    refine l_pass rfl ?_
    refine l_pass rfl ?_
    refine l_pass rfl ?_
    refine l_x rfl (x_pick_f rfl rfl) ?_
    refine l_a rfl ?_
    refine l_nil ?_
    exact HK69 _ _ ⟨rfl, (congrArg Value.bool (by unfold fR2; first | (simp_all; done) | (simp_all; omega))), trivial⟩ trivial (S102.take 1)
   refine l_pass rfl ?_
   refine l_pass rfl ?_
   refine l_pass rfl ?_
   refine l_x rfl (x_pick_f rfl rfl) ?_
   refine l_m rfl ?_
   refine l_pass rfl ?_
   refine l_pass rfl ?_
   refine l_pass rfl ?_
   refine l_pass rfl ?_
   refine l_pass rfl ?_
   refine l_x rfl (x_pick_f rfl rfl) ?_
   refine l_a rfl ?_
   refine l_nil ?_
   exact HK69 _ _ ⟨rfl, (congrArg Value.bool (by unfold fR2; first | (simp_all; done) | (simp_all; omega))), trivial⟩ trivial (S64.take 1)
  refine r_region ?_
  refine l_m rfl ?_
  refine l_m rfl ?_
  refine l_split (d := 84) rfl (fun hg84 => ?_) (fun hg84 => ?_)
  ·skip
   refine l_x rfl (x_fieldAddr rfl Tryz.runUnderlying26 rfl Tryz.sizeOf3 (by decide)) ?_
   refine l_x rfl (x_load rfl (ld_blk (S64.blk 0 rfl) Tryz.isAgg3 rfl)) ?_
   refine l_x rfl (x_eql rfl rfl) ?_
   refine l_x rfl (x_pick_t rfl rfl) ?_
   refine l_a rfl ?_
   refine l_nil ?_
   exact HK69 _ _ ⟨rfl, (congrArg Value.bool (by unfold fR2; first | (simp_all; done) | (simp_all; omega))), trivial⟩ trivial (S64.take 1)
  refine l_pass rfl ?_
  refine l_pass rfl ?_
  refine l_pass rfl ?_
  refine l_x rfl (x_pick_f rfl rfl) ?_
  refine l_a rfl ?_
  refine l_nil ?_
  exact HK69 _ _ ⟨rfl, (congrArg Value.bool (by unfold fR2; first | (simp_all; done) | (simp_all; omega))), trivial⟩ trivial (S64.take 1)
 refine r_ifd rfl (fun hc54 => ?_) (fun hc54 => ?_)
 ·skip
  refine r_region ?_
  refine l_m rfl ?_
  refine l_m rfl ?_
  refine l_x rfl (x_fieldAddr rfl Tryz.runUnderlying26 rfl Tryz.sizeOf3 (by decide)) ?_
  refine l_x rfl (x_load rfl (ld_blk (S57.blk 0 rfl) Tryz.isAgg3 rfl)) ?_
  refine l_call [] [] [_] rfl rfl Tryz.call86 rfl (c_rowner _ _) ?_
  rintro _ w104 ⟨rfl, hl106⟩
  have S105 := S57.step hl106
  refine l_x rfl (x_pick_t rfl rfl) ?_
  refine l_a rfl ?_
  refine l_nil ?_
  exact HK62 _ _ ⟨rfl, (congrArg Value.bool (by unfold fR1; first | (simp_all; done) | (simp_all; omega))), trivial⟩ trivial (S105.take 1)
 refine r_region ?_
 refine l_m rfl ?_
 refine l_m rfl ?_
 refine l_x rfl (x_fieldAddr rfl Tryz.runUnderlying26 rfl Tryz.sizeOf3 (by decide)) ?_
 refine l_x rfl (x_load rfl (ld_blk (S57.blk 0 rfl) Tryz.isAgg3 rfl)) ?_
 refine l_x rfl (x_eql rfl rfl) ?_
 refine l_x rfl (x_pick_t rfl rfl) ?_
 refine l_a rfl ?_
 refine l_nil ?_
 exact HK62 _ _ ⟨rfl, (congrArg Value.bool (by unfold fR1; first | (simp_all; done) | (simp_all; omega))), trivial⟩ trivial (S57.take 1)

theorem any_no {p : Rw → Bool} {l : List Rw} (h : ∀ z ∈ l, p z = false) : l.any p = false := by
 cases hc : l.any p with
 | false => rfl
 | true => obtain ⟨z, hz, e⟩ := List.any_eq_true.1 hc; rw [h z hz] at e; cases e

set_option maxHeartbeats 4000000 in
theorem c_rnamed (rs : List Rw) (vl : Value) (a : Rw) (hof : a.1.kind = 6 ∨ a.1.kind = 7 ∨ a.1.kind = 8 → 1 ≤ a.1.of ∧ a.1.of ≤ rs.length) (w : World) (hD : DsR 26 3 w vl rs) (hA : SubR 3 w a) :
  Cl Tryz.prog 80 #[vl, .agg (encD a).toArray] w fun v w' => v = .bool (namedR (dl rs) a.1) ∧ Le w w' := by
 have hml := hD.lm
 refine fn_of_run (args := [_, _]) 48 Tryz.func80 rfl rfl rfl fun cs => ?_
 have S := Own.start (X := nob) w
 refine r_seq ?_
 refine r_region ?_
 refine l_box S rfl rfl ?_
 intro b4 w1 S2 hl3
 refine l_a rfl ?_
 refine l_nil ?_
 refine r_seq ?_
 refine r_seq ?_
 refine r_region ?_
 refine l_x rfl (x_fieldAddr rfl Tryz.runUnderlying26 rfl Tryz.sizeOf5 (by decide)) ?_
 refine l_x rfl (x_load rfl (ld_blk (S2.blk 0 rfl) Tryz.isAgg5 rfl)) ?_
 refine l_call [] [] [_, _] rfl rfl Tryz.call113 rfl (c_uses_of _ _) ?_
 rintro _ w5 ⟨rfl, hl7⟩
 have S6 := S2.step hl7
 refine l_x rfl (x_notd rfl) ?_
 refine l_nil ?_
 refine r_ifd rfl (fun hc10 => ?_) (fun hc10 => ?_)
 ·skip
  refine r_seq ?_
  refine r_region ?_
  refine l_a rfl ?_
  refine l_nil ?_
  refine r_ret (rs := [.tmp 4]) [_] Tryz.func80 rfl ⟨rfl, trivial⟩ ?_
  exact ⟨congrArg Value.bool (by rw [namedR, if_neg hc10]), S6.le⟩
 refine r_skip ?_
 refine r_seq ?_
 have hk := Decidable.not_not.1 hc10
 obtain ⟨ho1, ho2⟩ := hof hk
 obtain ⟨y, hy⟩ : ∃ y, rs[(a.1.of - 1).toNat]? = some y := ⟨_, List.getElem?_eq_getElem (by omega)⟩
 refine r_region ?_
 refine l_m rfl ?_
 refine l_x rfl (x_fieldAddr rfl Tryz.runUnderlying26 rfl Tryz.sizeOf3 (by decide)) ?_
 refine l_x rfl (x_load rfl (ld_blk (S6.blk 0 rfl) Tryz.isAgg3 rfl)) ?_
 refine l_x rfl (x_sub rfl rfl (by omega)) ?_
 refine l_index ED rfl (hD.rd.le S6.le) rfl rfl Tryz.runUnderlying23 Tryz.sizeOf26 (by omega) hy ?_
 intro b8 o9 hat10 row11
 refine l_x rfl (x_load rfl (ld_row Tryz.isAgg26 Tryz.sizeOf26 rfl row11)) ?_
 refine l_alloc S6 rfl Tryz.zeroValue26 rfl ?_
 intro b15 w12 S13 hl14
 refine l_stores S13 1 rfl rfl rfl rfl (ED.one _) Tryz.sizeOf26 (by first | exact Nat.le_refl _ | simp) (splice_all rfl) ?_
 intro w16 S17 hk18
 refine l_nil ?_
 refine r_seq ?_
 refine r_seq ?_
 refine r_region ?_
 refine l_x rfl (x_fieldAddr rfl Tryz.runUnderlying26 rfl Tryz.sizeOf5 (by decide)) ?_
 refine l_x rfl (x_load rfl (ld_blk (S17.blk 0 rfl) Tryz.isAgg5 rfl)) ?_
 refine l_x rfl (x_neq rfl rfl) ?_
 refine l_nil ?_
 refine r_ifd rfl (fun hc19 => ?_) (fun hc19 => ?_)
 ·skip
  refine r_seq ?_
  refine r_region ?_
  refine l_x rfl (x_fieldAddr rfl Tryz.runUnderlying26 rfl Tryz.sizeOf5 (by decide)) ?_
  refine l_x rfl (x_load rfl (ld_blk (S17.blk 1 rfl) Tryz.isAgg5 rfl)) ?_
  refine l_x rfl (x_eql rfl rfl) ?_
  refine l_a rfl ?_
  refine l_nil ?_
  refine r_ret (rs := [.tmp 4]) [_] Tryz.func80 rfl ⟨rfl, trivial⟩ ?_
  exact ⟨congrArg Value.bool (by rw [namedR, if_pos hk, named_at (dl_get hy), if_neg hc19]; simp), S17.le⟩
 have h8 := Decidable.not_not.1 hc19
 refine r_skip ?_
 refine r_seq ?_
 refine r_seq ?_
 refine r_region ?_
 refine l_x rfl (x_fieldAddr rfl Tryz.runUnderlying26 rfl Tryz.sizeOf5 (by decide)) ?_
 refine l_x rfl (x_load rfl (ld_blk (S17.blk 1 rfl) Tryz.isAgg5 rfl)) ?_
 refine l_x rfl (x_eql rfl rfl) ?_
 refine l_nil ?_
 refine r_ifd rfl (fun hc25 => ?_) (fun hc25 => ?_)
 ·skip
  refine r_seq ?_
  refine r_region ?_
  refine l_a rfl ?_
  refine l_nil ?_
  refine r_ret (rs := [.tmp 4]) [_] Tryz.func80 rfl ⟨rfl, trivial⟩ ?_
  exact ⟨congrArg Value.bool (by rw [namedR, if_pos hk, named_at (dl_get hy), if_pos h8]; simp [hc25]), S17.le⟩
 refine r_skip ?_
 refine r_seq ?_
 refine r_seq ?_
 refine r_region ?_
 refine l_a rfl ?_
 refine l_nil ?_
 refine r_block ?_
 refine r_loop (G := Nat) (fun i => rs.length - i) (fun i => [(0, vl), (3, .pointer (some ⟨b4, 0, none⟩)), (6, .int .i64 i)]) (fun i w' => (i ≤ rs.length) ∧ (∀ z ∈ rs.take i, (fun z : Rw => decide (z.1.kind = 8 ∧ z.1.of = a.1.of)) z = false) ∧ Own nob w w' [blk b4 (encD a) 26]) 0 ⟨rfl, rfl, rfl, trivial⟩ ⟨Nat.zero_le _, by simp, (S17.take 1)⟩ ?_
 rintro i ρ w1 ⟨hi, hno, S1⟩ IH
 refine r_seq ?_
 refine r_seq ?_
 refine r_region ?_
 refine l_m rfl ?_
 refine l_m rfl ?_
 refine l_x rfl (x_len (hD.rd.le S1.le) rfl Tryz.runUnderlying23) ?_
 refine l_x rfl (x_lss rfl rfl) ?_
 refine l_nil ?_
 refine r_ifd rfl (fun hc29 => ?_) (fun hc29 => ?_)
 ·skip
  obtain ⟨z, hz⟩ : ∃ y, rs[i]? = some y := ⟨_, List.getElem?_eq_getElem (by omega)⟩
  have hzm := List.mem_of_getElem? hz
  refine r_skip ?_
  refine r_seq ?_
  refine r_block ?_
  refine r_seq ?_
  refine r_drawR 16 Tryz.mixed (by kernel_rfl) ?_
  refine w_x rfl (fun w1 h1 => x_mv rfl) ?_
  refine w_x rfl (fun w1 h1 => x_mv rfl) ?_
  refine w_index ED rfl (hD.rd.le S1.le) rfl rfl Tryz.runUnderlying23 Tryz.sizeOf26 (by omega) hz ?_
  intro b19 o20 hat21 row22
  refine w_x rfl (fun w1 h1 => x_fieldAddr rfl Tryz.runUnderlying26 rfl Tryz.sizeOf5 (by decide)) ?_
  refine w_x rfl (fun w1 h1 => x_load rfl (ld_cell Tryz.isAgg5 ((row22.le h1) 3 _ rfl))) ?_
  refine w_x rfl (fun w1 h1 => x_eql rfl rfl) ?_
  refine w_x rfl (fun w1 h1 => x_mv rfl) ?_
  refine w_splitd (d := 38) rfl (fun hg38 => ?_) (fun hg38 => ?_)
  ·skip
   refine w_x rfl (fun w1 h1 => x_mv rfl) ?_
   refine w_x rfl (fun w1 h1 => x_mv rfl) ?_
   refine w_index ED rfl (hD.rd.le S1.le) rfl rfl Tryz.runUnderlying23 Tryz.sizeOf26 (by omega) hz ?_
   intro b23 o24 hat25 row26
   refine w_x rfl (fun w1 h1 => x_fieldAddr rfl Tryz.runUnderlying26 rfl Tryz.sizeOf3 (by decide)) ?_
   refine w_x rfl (fun w1 h1 => x_load rfl (ld_cell Tryz.isAgg3 ((row26.le h1) 8 _ rfl))) ?_
   refine w_x rfl (fun w1 h1 => x_fieldAddr rfl Tryz.runUnderlying26 rfl Tryz.sizeOf3 (by decide)) ?_
   refine w_x rfl (fun w1 h1 => x_load rfl (ld_blk ((S1.step h1).blk 0 rfl) Tryz.isAgg3 rfl)) ?_
   refine w_x rfl (fun w1 h1 => x_eql rfl rfl) ?_
   refine w_x rfl (fun w1 h1 => x_pick_t rfl rfl) ?_
   refine w_nil ?_
   intro w27 hl28
   have S29 := S1.step hl28
   refine l_nil ?_
   refine r_ifd rfl (fun hc47 => ?_) (fun hc47 => ?_)
   ·skip
    refine r_seq ?_
    refine r_region ?_
    refine l_a rfl ?_
    refine l_nil ?_
    refine r_ret (rs := [.tmp 4]) [_] Tryz.func80 rfl ⟨rfl, trivial⟩ ?_
    exact ⟨congrArg Value.bool (by rw [namedR, if_pos hk, named_at (dl_get hy), if_pos h8, dl_any, List.any_eq_true.2 ⟨z, hzm, by simp [hg38, hc47]⟩]; simp), S29.le⟩
   refine r_skip ?_
   refine r_inBlock ?_
   refine r_region ?_
   refine l_m rfl ?_
   refine l_x rfl (x_add rfl rfl (by omega)) ?_
   refine l_a rfl ?_
   refine l_nil ?_
   exact IH (i + 1) _ _ (by omega) ⟨rfl, rfl, rfl, trivial⟩ ⟨by omega, ixd_step hno hz (by simp_all), (S29.take 1)⟩
  refine w_pass rfl ?_
  refine w_pass rfl ?_
  refine w_pass rfl ?_
  refine w_pass rfl ?_
  refine w_pass rfl ?_
  refine w_pass rfl ?_
  refine w_pass rfl ?_
  refine w_pass rfl ?_
  refine w_x rfl (fun w1 h1 => x_pick_f rfl rfl) ?_
  refine w_nil ?_
  intro w30 hl31
  have S32 := S1.step hl31
  refine l_nil ?_
  refine r_false rfl ?_
  refine r_skip ?_
  refine r_inBlock ?_
  refine r_region ?_
  refine l_m rfl ?_
  refine l_x rfl (x_add rfl rfl (by omega)) ?_
  refine l_a rfl ?_
  refine l_nil ?_
  exact IH (i + 1) _ _ (by omega) ⟨rfl, rfl, rfl, trivial⟩ ⟨by omega, ixd_step hno hz (by simp_all), (S32.take 1)⟩
 obtain rfl : i = rs.length := by omega
 rw [List.take_length] at hno
 refine r_exit rfl ?_
 refine r_seq ?_
 refine r_region ?_
 refine l_a rfl ?_
 refine l_nil ?_
 refine r_ret (rs := [.tmp 4]) [_] Tryz.func80 rfl ⟨rfl, trivial⟩ ?_
 exact ⟨congrArg Value.bool (by rw [namedR, if_pos hk, named_at (dl_get hy), if_pos h8, dl_any, any_no hno, decide_eq_false hc25]; rfl), S1.le⟩

end Go.Proofs

namespace Go.Proofs
open Go Go.Vk Go.Vk.Flow

open Go.Vk.Deed
theorem formed_ofs {x : D} (h : formed x = true) (k : x.kind = 6 ∨ x.kind = 7 ∨ x.kind = 8) : 1 ≤ x.of ∧ x.of < x.id := by
 rw [formed_ref, Bool.and_eq_true] at h
 have h6 := h.2
 unfold fR6 at h6
 rw [Bool.and_eq_true, if_pos k, decide_eq_true_iff] at h6
 exact h6.2
theorem chk_tuple {l : List D} {i : Nat} {x : D} {e : Int} (hx : l[i]? = some x) (h0 : ∀ j, j < i → chkAt l j = 0) (hf : follows (l.take i) x = e) (he : e ≠ 0) : chkD l = ((i : Int), e) := by
 have h1 := chkAt_get hx
 rw [hf] at h1
 rw [chk_at (List.getElem?_eq_some_iff.1 hx).1 h0 (by rw [h1]; exact he), h1]

set_option maxHeartbeats 4000000 in
theorem c_rCheck (rs : List Rw) (vl : Value) (w : World) (hD : DsR 26 3 w vl rs) :
  Cl Tryz.prog 22 #[vl] w fun v w' => v = .tuple #[.int .i64 (chkD (dl rs)).1, .int .i64 (chkD (dl rs)).2] ∧ Le w w' := by
 have hml := hD.lm
 refine fn_of_run (args := [_]) 64 Tryz.func22 rfl rfl rfl fun cs => ?_
 have S := Own.start (X := nob) w
 refine r_seq ?_
 refine r_region ?_
 refine l_a rfl ?_
 refine l_a rfl ?_
 refine l_nil ?_
 refine r_seq ?_
 refine r_region ?_
 refine l_a rfl ?_
 refine l_nil ?_
 refine r_seq ?_
 refine r_seq ?_
 refine r_region ?_
 refine l_a rfl ?_
 refine l_nil ?_
 refine r_block ?_
 refine r_loop (G := Nat) (fun i => rs.length - i) (fun i => [(0, vl), (4, .int .i64 (enters ((dl rs).take i))), (5, .int .i64 i)]) (fun i w' => (i ≤ rs.length) ∧ (∀ j, j < i → chkAt (dl rs) j = 0) ∧ (0 ≤ enters ((dl rs).take i) ∧ enters ((dl rs).take i) ≤ 1000000000) ∧ Own nob w w' []) 0 ⟨rfl, rfl, rfl, trivial⟩ ⟨Nat.zero_le _, (fun j h => absurd h (Nat.not_lt_zero j)), (by simp [enters, sumI]), (S.take 0)⟩ ?_
 rintro i ρ w1 ⟨hi, h0, heb, S1⟩ IH
 refine r_seq ?_
 refine r_seq ?_
 refine r_region ?_
 refine l_m rfl ?_
 refine l_m rfl ?_
 refine l_x rfl (x_len (hD.rd.le S1.le) rfl Tryz.runUnderlying23) ?_
 refine l_x rfl (x_lss rfl rfl) ?_
 refine l_nil ?_
 refine r_ifd rfl (fun hc10 => ?_) (fun hc10 => ?_)
 ·skip
  obtain ⟨a, ha⟩ : ∃ a, rs[i]? = some a := ⟨_, List.getElem?_eq_getElem (by omega)⟩
  have ham := List.mem_of_getElem? ha
  have htl : ((dl rs).take i).length = i := by rw [List.length_take, dl_len]; omega
  refine r_skip ?_
  refine r_seq ?_
  refine r_block ?_
  refine r_seq ?_
  refine r_region ?_
  refine l_m rfl ?_
  refine l_m rfl ?_
  refine l_index ED rfl (hD.rd.le S1.le) rfl rfl Tryz.runUnderlying23 Tryz.sizeOf26 (by omega) ha ?_
  intro b1 o2 hat3 row4
  refine l_x rfl (x_load rfl (ld_row Tryz.isAgg26 Tryz.sizeOf26 rfl row4)) ?_
  refine l_alloc S1 rfl Tryz.zeroValue26 rfl ?_
  intro b8 w5 S6 hl7
  refine l_stores (vs := [_, _, _, _, _, _, _, _, _, _, _]) S6 0 rfl rfl rfl rfl (ones_cons rfl (ones_cons rfl (ones_cons rfl (ones_cons rfl (ones_cons rfl (ones_cons rfl (ones_cons rfl (ones_cons rfl (ones_cons rfl (ones_cons (Rd.one ((hD.sub _ ham).1.le S6.le)) (ones_cons (Rd.one ((hD.sub _ ham).2.le S6.le)) ones_nil))))))))))) Tryz.sizeOf26 (by first | exact Nat.le_refl _ | simp) (splice_all rfl) ?_
  intro w9 S10 hk11
  refine l_nil ?_
  refine r_seq ?_
  refine r_seq ?_
  refine r_region ?_
  refine l_m rfl ?_
  refine l_x rfl (x_geq rfl rfl) ?_
  refine l_nil ?_
  refine r_ifd rfl (fun hc18 => ?_) (fun hc18 => ?_)
  ·skip
   refine r_seq ?_
   refine r_region ?_
   refine l_m rfl ?_
   refine l_a rfl ?_
   refine l_a rfl ?_
   refine l_nil ?_
   refine r_ret (rs := [.tmp 2, .tmp 3]) [_, _] Tryz.func22 rfl ⟨rfl, rfl, trivial⟩ ?_
   exact ⟨by show Value.tuple #[.int .i64 (i : Int), .int .i64 2] = _; rw [chk_tuple (dl_get ha) h0 (fol_full (by rw [List.length_take, dl_len]; omega)) (show (2 : Int) ≠ 0 by decide)], S10.le⟩
  refine r_skip ?_
  refine r_seq ?_
  refine r_seq ?_
  refine r_region ?_
  refine l_x rfl (x_load rfl (ld_blks (S10.blk 0 rfl) Tryz.isAgg26 Tryz.sizeOf26 rfl rfl)) ?_
  refine l_call [] [] [_] rfl rfl Tryz.call48 rfl (c_rCheckDeed a _ ((hD.sub a ham).le S10.le)) ?_
  rintro _ w12 ⟨rfl, hl14⟩
  have S13 := S10.step hl14
  refine l_x rfl (x_neq rfl rfl) ?_
  refine l_m rfl ?_
  refine l_splitd (d := 23) rfl (fun hg23 => ?_) (fun hg23 => ?_)
  ·skip
   refine l_pass rfl ?_
   refine l_pass rfl ?_
   refine l_pass rfl ?_
   refine l_pass rfl ?_
   refine l_pass rfl ?_
   refine l_x rfl (x_pick_t rfl rfl) ?_
   refine l_nil ?_
   refine r_true rfl ?_
   refine r_seq ?_
   refine r_region ?_
   refine l_m rfl ?_
   refine l_a rfl ?_
   refine l_a rfl ?_
   refine l_nil ?_
   refine r_ret (rs := [.tmp 2, .tmp 3]) [_, _] Tryz.func22 rfl ⟨rfl, rfl, trivial⟩ ?_
   exact ⟨by show Value.tuple #[.int .i64 (i : Int), .int .i64 1] = _; rw [chk_tuple (dl_get ha) h0 (fol_form (by rw [List.length_take, dl_len]; omega) (.inl (by cases h9 : formed a.1 with | false => rfl | true => rw [h9] at hg23; exact absurd rfl hg23))) (show (1 : Int) ≠ 0 by decide)], S13.le⟩
  refine l_x rfl (x_fieldAddr rfl Tryz.runUnderlying26 rfl Tryz.sizeOf3 (by decide)) ?_
  refine l_x rfl (x_load rfl (ld_blk (S13.blk 0 rfl) Tryz.isAgg3 rfl)) ?_
  refine l_m rfl ?_
  refine l_x rfl (x_add rfl rfl (by omega)) ?_
  refine l_x rfl (x_neq rfl rfl) ?_
  refine l_x rfl (x_pick_f rfl rfl) ?_
  refine l_nil ?_
  refine r_ifd rfl (fun hc29 => ?_) (fun hc29 => ?_)
  ·skip
   refine r_seq ?_
   refine r_region ?_
   refine l_m rfl ?_
   refine l_a rfl ?_
   refine l_a rfl ?_
   refine l_nil ?_
   refine r_ret (rs := [.tmp 2, .tmp 3]) [_, _] Tryz.func22 rfl ⟨rfl, rfl, trivial⟩ ?_
   exact ⟨by show Value.tuple #[.int .i64 (i : Int), .int .i64 1] = _; rw [chk_tuple (dl_get ha) h0 (fol_form (by rw [List.length_take, dl_len]; omega) (.inr (by rw [htl]; omega))) (show (1 : Int) ≠ 0 by decide)], S13.le⟩
  have hfo : formed a.1 = true := Classical.byContradiction fun h => by have h9 := Decidable.not_not.1 hg23; rw [if_neg h] at h9; exact absurd h9 (by decide)
  have hid : a.1.id = ((dl rs).take i).length + 1 := by rw [htl]; omega
  refine r_skip ?_
  refine r_seq ?_
  refine r_seq ?_
  refine r_drawR 13 Tryz.mixed (by kernel_rfl) ?_
  refine w_x rfl (fun w1 h1 => x_mv rfl) ?_
  refine w_x rfl (fun w1 h1 => x_gtr rfl rfl) ?_
  refine w_x rfl (fun w1 h1 => x_mv rfl) ?_
  refine w_splitd (d := 33) rfl (fun hg33 => ?_) (fun hg33 => ?_)
  ·skip
   obtain ⟨y, hy⟩ : ∃ y, rs[i - 1]? = some y := ⟨_, List.getElem?_eq_getElem (by omega)⟩
   refine w_x rfl (fun w1 h1 => x_fieldAddr rfl Tryz.runUnderlying26 rfl Tryz.sizeOf3 (by decide)) ?_
   refine w_x rfl (fun w1 h1 => x_load rfl (ld_blk ((S13.step h1).blk 0 rfl) Tryz.isAgg3 rfl)) ?_
   refine w_x rfl (fun w1 h1 => x_mv rfl) ?_
   refine w_x rfl (fun w1 h1 => x_mv rfl) ?_
   refine w_x rfl (fun w1 h1 => x_sub rfl rfl (by omega)) ?_
   refine w_index ED rfl (hD.rd.le S13.le) rfl rfl Tryz.runUnderlying23 Tryz.sizeOf26 (by omega) (by rw [show ((i : Int) - 1).toNat = i - 1 by omega]; exact hy) ?_
   intro b15 o16 hat17 row18
   refine w_x rfl (fun w1 h1 => x_fieldAddr rfl Tryz.runUnderlying26 rfl Tryz.sizeOf3 (by decide)) ?_
   refine w_x rfl (fun w1 h1 => x_load rfl (ld_cell Tryz.isAgg3 ((row18.le h1) 2 _ rfl))) ?_
   refine w_x rfl (fun w1 h1 => x_lss rfl rfl) ?_
   refine w_x rfl (fun w1 h1 => x_pick_t rfl rfl) ?_
   refine w_nil ?_
   intro w19 hl20
   have S21 := S13.step hl20
   refine l_nil ?_
   refine r_ifd rfl (fun hc43 => ?_) (fun hc43 => ?_)
   ·skip
    refine r_seq ?_
    refine r_region ?_
    refine l_m rfl ?_
    refine l_a rfl ?_
    refine l_a rfl ?_
    refine l_nil ?_
    refine r_ret (rs := [.tmp 2, .tmp 3]) [_, _] Tryz.func22 rfl ⟨rfl, rfl, trivial⟩ ?_
    exact ⟨by show Value.tuple #[.int .i64 (i : Int), .int .i64 7] = _; rw [chk_tuple (dl_get ha) h0 (fol_time (by rw [List.length_take, dl_len]; omega) hfo hid (y := y.1) (j := i - 1) (by rw [List.getElem?_take, if_pos (by omega)]; exact dl_get hy) (by omega) hc43) (show (7 : Int) ≠ 0 by decide)], S21.le⟩
   refine r_skip ?_
   refine r_seq ?_
   refine r_seq ?_
   have htm : lateB ((dl rs).take i) a.1 = false := by rw [← dl_take]; exact fol_last (rs := rs.take i) (by rw [List.length_take, Nat.min_eq_left (by omega), List.getElem?_take, if_pos (by omega)]; exact hy) hc43
   refine r_drawE 7 (yng w19) Tryz.mixed (by kernel_rfl) ?_
   intro w22 hl23
   have S24 := S21.step hl23
   have hy25 : Keep (yng w19) w19 w22 := .of_le hl23
   refine e_exact 1 _ (by kernel_rfl) rfl rfl (by kernel_rfl) rfl (ex_x rfl (fun w1 h1 => x_mv rfl)) ?_
   refine e_exact 2 _ (by kernel_rfl) rfl rfl (by kernel_rfl) rfl (ex_x rfl (fun w1 h1 => x_mv rfl)) ?_
   refine e_headF 3 (by kernel_rfl) rfl rfl (by kernel_rfl) rfl rfl (hD.rd.le S24.le) rfl rfl Tryz.runUnderlying23 Tryz.sizeOf26 (by omega) ?_
   intro v26 ht27
   refine e_exact 5 _ (by kernel_rfl) rfl rfl (by kernel_rfl) rfl (ex_x rfl (fun w1 h1 => x_load rfl (ld_blks ((S21.yng (hy25.trans h1)).blk 0 rfl) Tryz.isAgg26 Tryz.sizeOf26 rfl rfl))) ?_
   refine e_next [0] (by kernel_rfl) (by kernel_rfl) ⟨⟨_, _, rfl, rfl, ?_⟩, trivial⟩
   refine s_buildSlice ED [] (Own.start (X := nob) w22) rfl Tryz.runUnderlying23 Tryz.sizeOf26 Tryz.zeroValue26 rfl trivial (by decide) ?_
   intro v32 w28 S29 hl31
   have hn33 := S29.new 0 rfl
   have S30 := S24.add hl31 hn33
   refine ⟨.of_le hl31, ?_⟩
   have hyb34 : ∀ c, (vec ED v32 []).fp c → yng w19 c := fun c hc => Nat.le_trans hy25.size (hn33.bd c hc).1
   have hy35 : Keep (yng w19) w19 w28 := hy25.trans (Keep.of_le hl31)
   refine e_next [4] (by kernel_rfl) (by kernel_rfl) ⟨⟨_, _, rfl, rfl, ?_⟩, trivial⟩
   refine s_append ED (S30.lend 1 rfl) 0 rfl rfl rfl rfl (ht27 _ (hD.rd.le S30.le)) Tryz.underlying23 info26 rfl rfl rfl (by unfold maxLen; rw [List.length_nil, List.length_take]; omega) (by rw [List.length_nil, List.length_take]; show _ * 120 ≤ _; omega) ?_
   intro v40 w36 S37 hk39 hv41
   have S38 := S30.back 1 rfl S37
   have hyb42 : ∀ c, (vec ED v40 []).fp c → yng w19 c := fun c hc => (S37.bd 0 _ rfl c hc).2.elim (fun h => Nat.le_trans hy35.size h) (hyb34 c)
   refine ⟨hk39.mono fun c _ hc => hyb34 c hc, ?_⟩
   have hy43 : Keep (yng w19) w19 w36 := hy35.trans (hk39.mono fun c _ hc => hyb34 c hc)
   refine e_next [6] (by kernel_rfl) (by kernel_rfl) ⟨⟨_, _, rfl, rfl, ?_⟩, trivial⟩
   refine s_callf [] [] [_, _] rfl rfl Tryz.call80 rfl ((c_rnamed (rs.take i) _ a (fun k => by have h9 := formed_ofs hfo k; rw [List.length_take]; omega) _ (hD.mem S38.le (by have h9 := (vec_rd (S38.at 1 rfl)); rw [Int.toNat_natCast, List.nil_append] at h9; exact h9) (fun x hx => List.mem_of_mem_take hx) (by rw [List.length_take]; omega)) ((hD.sub a ham).le S38.le)).mono ?_)
   rintro _ w44 ⟨rfl, hl46⟩
   have S45 := S38.step hl46
   refine ⟨.of_le hl46, ?_⟩
   have hy47 : Keep (yng w19) w19 w44 := hy43.trans (Keep.of_le hl46)
   refine e_done (by kernel_rfl) ?_
   refine l_x rfl (x_not rfl) ?_
   refine l_nil ?_
   refine r_if rfl (fun hc52 => ?_) (fun hc52 => ?_)
   ·skip
    refine r_seq ?_
    refine r_region ?_
    refine l_m rfl ?_
    refine l_a rfl ?_
    refine l_a rfl ?_
    refine l_nil ?_
    refine r_ret (rs := [.tmp 2, .tmp 3]) [_, _] Tryz.func22 rfl ⟨rfl, rfl, trivial⟩ ?_
    exact ⟨by show Value.tuple #[.int .i64 (i : Int), .int .i64 8] = _; rw [chk_tuple (dl_get ha) h0 (by rw [fol_ref (by rw [List.length_take, dl_len]; omega) hfo hid htm heb.2, if_pos (by rw [← dl_take]; simpa using hc52)]) (show (8 : Int) ≠ 0 by decide)], S45.le⟩
   refine r_skip ?_
   refine r_seq ?_
   refine r_seq ?_
   refine r_region ?_
   refine l_x rfl (x_fieldAddr rfl Tryz.runUnderlying26 rfl Tryz.sizeOf5 (by decide)) ?_
   refine l_x rfl (x_load rfl (ld_blk (S45.blk 0 rfl) Tryz.isAgg5 rfl)) ?_
   refine l_x rfl (x_eql rfl rfl) ?_
   refine l_nil ?_
   refine r_ifd rfl (fun hc56 => ?_) (fun hc56 => ?_)
   ·skip
    have hpb := formed_parts hfo hc56
    have het := enters_take (dl_get ha)
    rw [if_pos hc56] at het
    refine r_region ?_
    refine l_m rfl ?_
    refine l_x rfl (x_fieldAddr rfl Tryz.runUnderlying26 rfl Tryz.sizeOf3 (by decide)) ?_
    refine l_x rfl (x_load rfl (ld_blk (S45.blk 0 rfl) Tryz.isAgg3 rfl)) ?_
    refine l_x rfl (x_add rfl rfl (by omega)) ?_
    refine l_a rfl ?_
    refine l_nil ?_
    refine r_seq ?_
    refine r_region ?_
    refine l_m rfl ?_
    refine l_x rfl (x_gtr rfl rfl) ?_
    refine l_nil ?_
    refine r_ifd rfl (fun hc62 => ?_) (fun hc62 => ?_)
    ·skip
     refine r_seq ?_
     refine r_region ?_
     refine l_m rfl ?_
     refine l_a rfl ?_
     refine l_a rfl ?_
     refine l_nil ?_
     refine r_ret (rs := [.tmp 2, .tmp 3]) [_, _] Tryz.func22 rfl ⟨rfl, rfl, trivial⟩ ?_
     exact ⟨by show Value.tuple #[.int .i64 (i : Int), .int .i64 2] = _; rw [chk_tuple (dl_get ha) h0 (by rw [fol_ref (by rw [List.length_take, dl_len]; omega) hfo hid htm heb.2, if_neg (by rw [← dl_take]; simpa using hc52), if_pos (by rw [if_pos hc56]; omega)]) (show (2 : Int) ≠ 0 by decide)], S45.le⟩
    have hfl := fol_ref (by rw [List.length_take, dl_len]; omega) hfo hid htm heb.2
    rw [if_neg (by rw [← dl_take]; simpa using hc52), if_neg (by rw [if_pos hc56]; omega)] at hfl
    refine r_skip ?_
    refine r_inBlock ?_
    refine r_region ?_
    refine l_m rfl ?_
    refine l_x rfl (x_add rfl rfl (by omega)) ?_
    refine l_a rfl ?_
    refine l_nil ?_
    exact IH (i + 1) _ _ (by omega) ⟨rfl, (congrArg (Value.int .i64) (by omega)), rfl, trivial⟩ ⟨by omega, all_step h0 (by rw [chkAt_get (dl_get ha)]; exact hfl), by omega, (S45.take 0)⟩
   have het := enters_take (dl_get ha)
   rw [if_neg hc56] at het
   refine r_skip ?_
   refine r_seq ?_
   refine r_region ?_
   refine l_m rfl ?_
   refine l_x rfl (x_gtr rfl rfl) ?_
   refine l_nil ?_
   refine r_ifd rfl (fun hc62 => ?_) (fun hc62 => ?_)
   ·omega
   have hfl := fol_ref (by rw [List.length_take, dl_len]; omega) hfo hid htm heb.2
   rw [if_neg (by rw [← dl_take]; simpa using hc52), if_neg (by rw [if_neg hc56]; omega)] at hfl
   refine r_skip ?_
   refine r_inBlock ?_
   refine r_region ?_
   refine l_m rfl ?_
   refine l_x rfl (x_add rfl rfl (by omega)) ?_
   refine l_a rfl ?_
   refine l_nil ?_
   exact IH (i + 1) _ _ (by omega) ⟨rfl, (congrArg (Value.int .i64) (by omega)), rfl, trivial⟩ ⟨by omega, all_step h0 (by rw [chkAt_get (dl_get ha)]; exact hfl), by omega, (S45.take 0)⟩
  refine w_pass rfl ?_
  refine w_pass rfl ?_
  refine w_pass rfl ?_
  refine w_pass rfl ?_
  refine w_pass rfl ?_
  refine w_pass rfl ?_
  refine w_pass rfl ?_
  refine w_pass rfl ?_
  refine w_pass rfl ?_
  refine w_x rfl (fun w1 h1 => x_pick_f rfl rfl) ?_
  refine w_nil ?_
  intro w48 hl49
  have S50 := S13.step hl49
  refine l_nil ?_
  refine r_false rfl ?_
  refine r_skip ?_
  refine r_seq ?_
  refine r_seq ?_
  have htm : lateB ((dl rs).take i) a.1 = false := by rw [← dl_take]; exact fol_last0 (rs := rs.take i) (by rw [List.length_take]; omega)
  refine r_drawE 7 (yng w48) Tryz.mixed (by kernel_rfl) ?_
  intro w51 hl52
  have S53 := S50.step hl52
  have hy54 : Keep (yng w48) w48 w51 := .of_le hl52
  refine e_exact 1 _ (by kernel_rfl) rfl rfl (by kernel_rfl) rfl (ex_x rfl (fun w1 h1 => x_mv rfl)) ?_
  refine e_exact 2 _ (by kernel_rfl) rfl rfl (by kernel_rfl) rfl (ex_x rfl (fun w1 h1 => x_mv rfl)) ?_
  refine e_headF 3 (by kernel_rfl) rfl rfl (by kernel_rfl) rfl rfl (hD.rd.le S53.le) rfl rfl Tryz.runUnderlying23 Tryz.sizeOf26 (by omega) ?_
  intro v55 ht56
  refine e_exact 5 _ (by kernel_rfl) rfl rfl (by kernel_rfl) rfl (ex_x rfl (fun w1 h1 => x_load rfl (ld_blks ((S50.yng (hy54.trans h1)).blk 0 rfl) Tryz.isAgg26 Tryz.sizeOf26 rfl rfl))) ?_
  refine e_next [0] (by kernel_rfl) (by kernel_rfl) ⟨⟨_, _, rfl, rfl, ?_⟩, trivial⟩
  refine s_buildSlice ED [] (Own.start (X := nob) w51) rfl Tryz.runUnderlying23 Tryz.sizeOf26 Tryz.zeroValue26 rfl trivial (by decide) ?_
  intro v61 w57 S58 hl60
  have hn62 := S58.new 0 rfl
  have S59 := S53.add hl60 hn62
  refine ⟨.of_le hl60, ?_⟩
  have hyb63 : ∀ c, (vec ED v61 []).fp c → yng w48 c := fun c hc => Nat.le_trans hy54.size (hn62.bd c hc).1
  have hy64 : Keep (yng w48) w48 w57 := hy54.trans (Keep.of_le hl60)
  refine e_next [4] (by kernel_rfl) (by kernel_rfl) ⟨⟨_, _, rfl, rfl, ?_⟩, trivial⟩
  refine s_append ED (S59.lend 1 rfl) 0 rfl rfl rfl rfl (ht56 _ (hD.rd.le S59.le)) Tryz.underlying23 info26 rfl rfl rfl (by unfold maxLen; rw [List.length_nil, List.length_take]; omega) (by rw [List.length_nil, List.length_take]; show _ * 120 ≤ _; omega) ?_
  intro v69 w65 S66 hk68 hv70
  have S67 := S59.back 1 rfl S66
  have hyb71 : ∀ c, (vec ED v69 []).fp c → yng w48 c := fun c hc => (S66.bd 0 _ rfl c hc).2.elim (fun h => Nat.le_trans hy64.size h) (hyb63 c)
  refine ⟨hk68.mono fun c _ hc => hyb63 c hc, ?_⟩
  have hy72 : Keep (yng w48) w48 w65 := hy64.trans (hk68.mono fun c _ hc => hyb63 c hc)
  refine e_next [6] (by kernel_rfl) (by kernel_rfl) ⟨⟨_, _, rfl, rfl, ?_⟩, trivial⟩
  refine s_callf [] [] [_, _] rfl rfl Tryz.call80 rfl ((c_rnamed (rs.take i) _ a (fun k => by have h9 := formed_ofs hfo k; rw [List.length_take]; omega) _ (hD.mem S67.le (by have h9 := (vec_rd (S67.at 1 rfl)); rw [Int.toNat_natCast, List.nil_append] at h9; exact h9) (fun x hx => List.mem_of_mem_take hx) (by rw [List.length_take]; omega)) ((hD.sub a ham).le S67.le)).mono ?_)
  rintro _ w73 ⟨rfl, hl75⟩
  have S74 := S67.step hl75
  refine ⟨.of_le hl75, ?_⟩
  have hy76 : Keep (yng w48) w48 w73 := hy72.trans (Keep.of_le hl75)
  refine e_done (by kernel_rfl) ?_
  refine l_x rfl (x_not rfl) ?_
  refine l_nil ?_
  refine r_if rfl (fun hc52 => ?_) (fun hc52 => ?_)
  ·skip
   refine r_seq ?_
   refine r_region ?_
   refine l_m rfl ?_
   refine l_a rfl ?_
   refine l_a rfl ?_
   refine l_nil ?_
   refine r_ret (rs := [.tmp 2, .tmp 3]) [_, _] Tryz.func22 rfl ⟨rfl, rfl, trivial⟩ ?_
   exact ⟨by show Value.tuple #[.int .i64 (i : Int), .int .i64 8] = _; rw [chk_tuple (dl_get ha) h0 (by rw [fol_ref (by rw [List.length_take, dl_len]; omega) hfo hid htm heb.2, if_pos (by rw [← dl_take]; simpa using hc52)]) (show (8 : Int) ≠ 0 by decide)], S74.le⟩
  refine r_skip ?_
  refine r_seq ?_
  refine r_seq ?_
  refine r_region ?_
  refine l_x rfl (x_fieldAddr rfl Tryz.runUnderlying26 rfl Tryz.sizeOf5 (by decide)) ?_
  refine l_x rfl (x_load rfl (ld_blk (S74.blk 0 rfl) Tryz.isAgg5 rfl)) ?_
  refine l_x rfl (x_eql rfl rfl) ?_
  refine l_nil ?_
  refine r_ifd rfl (fun hc56 => ?_) (fun hc56 => ?_)
  ·skip
   have hpb := formed_parts hfo hc56
   have het := enters_take (dl_get ha)
   rw [if_pos hc56] at het
   refine r_region ?_
   refine l_m rfl ?_
   refine l_x rfl (x_fieldAddr rfl Tryz.runUnderlying26 rfl Tryz.sizeOf3 (by decide)) ?_
   refine l_x rfl (x_load rfl (ld_blk (S74.blk 0 rfl) Tryz.isAgg3 rfl)) ?_
   refine l_x rfl (x_add rfl rfl (by omega)) ?_
   refine l_a rfl ?_
   refine l_nil ?_
   refine r_seq ?_
   refine r_region ?_
   refine l_m rfl ?_
   refine l_x rfl (x_gtr rfl rfl) ?_
   refine l_nil ?_
   refine r_ifd rfl (fun hc62 => ?_) (fun hc62 => ?_)
   ·skip
    refine r_seq ?_
    refine r_region ?_
    refine l_m rfl ?_
    refine l_a rfl ?_
    refine l_a rfl ?_
    refine l_nil ?_
    refine r_ret (rs := [.tmp 2, .tmp 3]) [_, _] Tryz.func22 rfl ⟨rfl, rfl, trivial⟩ ?_
    exact ⟨by show Value.tuple #[.int .i64 (i : Int), .int .i64 2] = _; rw [chk_tuple (dl_get ha) h0 (by rw [fol_ref (by rw [List.length_take, dl_len]; omega) hfo hid htm heb.2, if_neg (by rw [← dl_take]; simpa using hc52), if_pos (by rw [if_pos hc56]; omega)]) (show (2 : Int) ≠ 0 by decide)], S74.le⟩
   have hfl := fol_ref (by rw [List.length_take, dl_len]; omega) hfo hid htm heb.2
   rw [if_neg (by rw [← dl_take]; simpa using hc52), if_neg (by rw [if_pos hc56]; omega)] at hfl
   refine r_skip ?_
   refine r_inBlock ?_
   refine r_region ?_
   refine l_m rfl ?_
   refine l_x rfl (x_add rfl rfl (by omega)) ?_
   refine l_a rfl ?_
   refine l_nil ?_
   exact IH (i + 1) _ _ (by omega) ⟨rfl, (congrArg (Value.int .i64) (by omega)), rfl, trivial⟩ ⟨by omega, all_step h0 (by rw [chkAt_get (dl_get ha)]; exact hfl), by omega, (S74.take 0)⟩
  have het := enters_take (dl_get ha)
  rw [if_neg hc56] at het
  refine r_skip ?_
  refine r_seq ?_
  refine r_region ?_
  refine l_m rfl ?_
  refine l_x rfl (x_gtr rfl rfl) ?_
  refine l_nil ?_
  refine r_ifd rfl (fun hc62 => ?_) (fun hc62 => ?_)
  ·omega
  have hfl := fol_ref (by rw [List.length_take, dl_len]; omega) hfo hid htm heb.2
  rw [if_neg (by rw [← dl_take]; simpa using hc52), if_neg (by rw [if_neg hc56]; omega)] at hfl
  refine r_skip ?_
  refine r_inBlock ?_
  refine r_region ?_
  refine l_m rfl ?_
  refine l_x rfl (x_add rfl rfl (by omega)) ?_
  refine l_a rfl ?_
  refine l_nil ?_
  exact IH (i + 1) _ _ (by omega) ⟨rfl, (congrArg (Value.int .i64) (by omega)), rfl, trivial⟩ ⟨by omega, all_step h0 (by rw [chkAt_get (dl_get ha)]; exact hfl), by omega, (S74.take 0)⟩
 obtain rfl : i = rs.length := by omega
 refine r_exit rfl ?_
 refine r_seq ?_
 refine r_region ?_
 refine l_a rfl ?_
 refine l_a rfl ?_
 refine l_nil ?_
 refine r_ret (rs := [.tmp 2, .tmp 3]) [_, _] Tryz.func22 rfl ⟨rfl, rfl, trivial⟩ ?_
 exact ⟨by show Value.tuple #[.int .i64 0, .int .i64 0] = _; rw [chk_none (by rw [dl_len]; exact h0)], S1.le⟩

end Go.Proofs

namespace Go.Proofs
open Go Go.Vk Go.Vk.Flow

open Go.Vk.Deed
end Go.Proofs

namespace Go.Proofs
open Go Go.Vk Go.Vk.Flow

open Go.Vk.Deed
abbrev TS : STys := ⟨108, 84, 86, 4, 3⟩

set_option maxHeartbeats 2000000 in
theorem c_rbound (b : Nat) (n : SNm) (m : Nat) (s : St) (hm : m ≤ 400) (o day : Int) (hB : StB s) (hld : ∀ x ∈ s.leases, x.day ≤ day) (w : World) (h0 : RO (stS TS b n m s) w) :
  Cl Tryz.prog 137 #[.pointer (some ⟨b, 0, none⟩), .int .i64 o, .int .i64 day] w fun v w' => v = .tuple #[.int .i64 (pledged s o), .int .i64 (outS s o day)] ∧ Le w w' := by
 obtain ⟨r, hR⟩ := StRO.of h0
 have hO := hR.ok
 have hll := r_ll hO hB
 have hpl := hO.pl
 have hel := hO.e
 have hpb := fun k => rpl_bd (o := o) hO hm hB k
 have hob := fun k => rout_bd (o := o) (day := day) hO hB k
 refine fn_of_run (args := [_, _, _]) 94 Tryz.func137 rfl rfl rfl fun cs => ?_
 have S := Own.start (X := nob) w
 refine r_seq ?_
 refine r_region ?_
 refine l_a rfl ?_
 refine l_a rfl ?_
 refine l_nil ?_
 refine r_seq ?_
 refine r_region ?_
 refine l_a rfl ?_
 refine l_nil ?_
 refine r_seq ?_
 refine r_region ?_
 refine l_a rfl ?_
 refine l_nil ?_
 refine r_seq ?_
 refine r_seq ?_
 refine r_region ?_
 refine l_a rfl ?_
 refine l_nil ?_
 refine r_block ?_
 refine r_loop (G := Nat) (fun i => r.ps.length - i) (fun i => [(0, .pointer (some ⟨b, 0, none⟩)), (1, .int .i64 o), (2, .int .i64 day), (8, .int .i64 (rpl r o i)), (9, .int .i64 0), (10, .int .i64 i)]) (fun i w' => (i ≤ r.ps.length) ∧ Own nob w w' []) 0 ⟨rfl, rfl, rfl, (congrArg (Value.int .i64) (by simp [rpl, sumI])), rfl, rfl, trivial⟩ ⟨Nat.zero_le _, (S.take 0)⟩ ?_
 rintro i ρ w1 ⟨hi, S1⟩ IH
 refine r_seq ?_
 refine r_seq ?_
 refine r_region ?_
 refine l_m rfl ?_
 refine l_m rfl ?_
 refine l_x rfl (x_nilCheck rfl) ?_
 refine l_x rfl (x_fieldAddr rfl Tryz.runUnderlying108 rfl Tryz.sizeOf81 (by decide)) ?_
 refine l_x rfl (x_load rfl (ld_blk (hR.blk.keep S1.le id) Tryz.isAgg81 stP_get)) ?_
 refine l_x rfl (x_len (hR.pm.le S1.le) rfl Tryz.runUnderlying81) ?_
 refine l_x rfl (x_lss rfl rfl) ?_
 refine l_nil ?_
 refine r_ifd rfl (fun hc18 => ?_) (fun hc18 => ?_)
 ·skip
  obtain ⟨p, hp⟩ : ∃ x, r.ps[i]? = some x := ⟨_, List.getElem?_eq_getElem (by omega)⟩
  obtain ⟨e, he⟩ : ∃ x, r.es[i]? = some x := ⟨_, List.getElem?_eq_getElem (by omega)⟩
  have hp1 := hpb i
  have hp2 := hpb (i + 1)
  rw [rpl_step hp he] at hp2
  refine r_skip ?_
  refine r_seq ?_
  refine r_block ?_
  refine r_seq ?_
  refine r_region ?_
  refine l_m rfl ?_
  refine l_x rfl (x_nilCheck rfl) ?_
  refine l_x rfl (x_fieldAddr rfl Tryz.runUnderlying108 rfl Tryz.sizeOf81 (by decide)) ?_
  refine l_x rfl (x_load rfl (ld_blk (hR.blk.keep S1.le id) Tryz.isAgg81 stP_get)) ?_
  refine l_m rfl ?_
  refine l_index EPL rfl (hR.pm.le S1.le) rfl rfl Tryz.runUnderlying81 Tryz.sizeOf86 (by omega) hp ?_
  intro b1 o2 hat3 row4
  refine l_x rfl (x_fieldAddr rfl Tryz.runUnderlying86 rfl Tryz.sizeOf3 (by decide)) ?_
  refine l_x rfl (x_load rfl (ld_cell Tryz.isAgg3 (row4 1 _ rfl))) ?_
  refine l_m rfl ?_
  refine l_x rfl (x_eql rfl rfl) ?_
  refine l_m rfl ?_
  refine l_splitd (d := 31) rfl (fun hg31 => ?_) (fun hg31 => ?_)
  ·skip
   refine l_m rfl ?_
   refine l_x rfl (x_nilCheck rfl) ?_
   refine l_x rfl (x_fieldAddr rfl Tryz.runUnderlying108 rfl Tryz.sizeOf106 (by decide)) ?_
   refine l_x rfl (x_load rfl (ld_blk (hR.blk.keep S1.le id) Tryz.isAgg106 stE_get)) ?_
   refine l_m rfl ?_
   refine l_index EB rfl (hR.em.le S1.le) rfl rfl Tryz.runUnderlying106 Tryz.sizeOf4 (by omega) he ?_
   intro b5 o6 hat7 row8
   refine l_x rfl (x_load rfl (ld_cell Tryz.isAgg4 (row8 0 _ rfl))) ?_
   refine l_x rfl (x_not rfl) ?_
   refine l_x rfl (x_pick_t rfl rfl) ?_
   refine l_nil ?_
   refine r_if rfl (fun hc40 => ?_) (fun hc40 => ?_)
   ·skip
    refine r_region ?_
    refine l_m rfl ?_
    refine l_m rfl ?_
    refine l_x rfl (x_nilCheck rfl) ?_
    refine l_x rfl (x_fieldAddr rfl Tryz.runUnderlying108 rfl Tryz.sizeOf81 (by decide)) ?_
    refine l_x rfl (x_load rfl (ld_blk (hR.blk.keep S1.le id) Tryz.isAgg81 stP_get)) ?_
    refine l_m rfl ?_
    refine l_index EPL rfl (hR.pm.le S1.le) rfl rfl Tryz.runUnderlying81 Tryz.sizeOf86 (by omega) (by first | assumption | exact List.getElem?_eq_getElem (by omega)) ?_
    intro b9 o10 hat11 row12
    refine l_x rfl (x_fieldAddr rfl Tryz.runUnderlying86 rfl Tryz.sizeOf3 (by decide)) ?_
    refine l_x rfl (x_load rfl (ld_cell Tryz.isAgg3 (row12 3 _ rfl))) ?_
    refine l_x rfl (x_add rfl rfl (by rw [if_pos ⟨hg31, by simpa using hc40⟩] at hp2; omega)) ?_
    refine l_a rfl ?_
    refine l_nil ?_
    refine r_inBlock ?_
    refine r_region ?_
    refine l_m rfl ?_
    refine l_x rfl (x_add rfl rfl (by omega)) ?_
    refine l_a rfl ?_
    refine l_nil ?_
    exact IH (i + 1) _ _ (by omega) ⟨rfl, rfl, rfl, (congrArg (Value.int .i64) (by rw [rpl_step hp he, if_pos ⟨hg31, by simpa using hc40⟩])), rfl, rfl, trivial⟩ ⟨by omega, (S1.take 0)⟩
   refine r_skip ?_
   refine r_inBlock ?_
   refine r_region ?_
   refine l_m rfl ?_
   refine l_x rfl (x_add rfl rfl (by omega)) ?_
   refine l_a rfl ?_
   refine l_nil ?_
   exact IH (i + 1) _ _ (by omega) ⟨rfl, rfl, rfl, (congrArg (Value.int .i64) (by rw [rpl_step hp he, if_neg (by rintro ⟨_, h⟩; rw [h] at hc40; simp at hc40), Int.add_zero])), rfl, rfl, trivial⟩ ⟨by omega, (S1.take 0)⟩
  refine l_pass rfl ?_
  refine l_pass rfl ?_
  refine l_pass rfl ?_
  refine l_pass rfl ?_
  refine l_pass rfl ?_
  refine l_pass rfl ?_
  refine l_pass rfl ?_
  refine l_pass rfl ?_
  refine l_x rfl (x_pick_f rfl rfl) ?_
  refine l_nil ?_
  refine r_false rfl ?_
  refine r_skip ?_
  refine r_inBlock ?_
  refine r_region ?_
  refine l_m rfl ?_
  refine l_x rfl (x_add rfl rfl (by omega)) ?_
  refine l_a rfl ?_
  refine l_nil ?_
  exact IH (i + 1) _ _ (by omega) ⟨rfl, rfl, rfl, (congrArg (Value.int .i64) (by rw [rpl_step hp he, if_neg (fun h => hg31 h.1), Int.add_zero])), rfl, rfl, trivial⟩ ⟨by omega, (S1.take 0)⟩
 obtain rfl : i = r.ps.length := by omega
 have hpa := rpl_all (o := o) hO (Nat.le_refl _)
 refine r_exit rfl ?_
 refine r_seq ?_
 refine r_seq ?_
 refine r_region ?_
 refine l_a rfl ?_
 refine l_nil ?_
 refine r_block ?_
 refine r_loop (G := Nat) (fun i => r.ls.length - i) (fun i => [(0, .pointer (some ⟨b, 0, none⟩)), (1, .int .i64 o), (2, .int .i64 day), (8, .int .i64 (pledged s o)), (9, .int .i64 (rout r o day i)), (11, .int .i64 i)]) (fun i w' => (i ≤ r.ls.length) ∧ Own nob w w' []) 0 ⟨rfl, rfl, rfl, (congrArg (Value.int .i64) hpa), (congrArg (Value.int .i64) (by simp [rout, sumI])), rfl, trivial⟩ ⟨Nat.zero_le _, (S1.take 0)⟩ ?_
 rintro i ρ w1b ⟨hi, S1b⟩ IHb
 refine r_seq ?_
 refine r_seq ?_
 refine r_region ?_
 refine l_m rfl ?_
 refine l_m rfl ?_
 refine l_x rfl (x_nilCheck rfl) ?_
 refine l_x rfl (x_fieldAddr rfl Tryz.runUnderlying108 rfl Tryz.sizeOf78 (by decide)) ?_
 refine l_x rfl (x_load rfl (ld_blk (hR.blk.keep S1b.le id) Tryz.isAgg78 stL_get)) ?_
 refine l_x rfl (x_len (hR.lm.le S1b.le) rfl Tryz.runUnderlying78) ?_
 refine l_x rfl (x_lss rfl rfl) ?_
 refine l_nil ?_
 refine r_ifd rfl (fun hc57 => ?_) (fun hc57 => ?_)
 ·skip
  obtain ⟨x, hx⟩ : ∃ x, r.ls[i]? = some x := ⟨_, List.getElem?_eq_getElem (by omega)⟩
  have hxb := r_lp hO hB (List.mem_of_getElem? hx)
  have hp1 := hob i
  have hp2 := hob (i + 1)
  rw [rout_step hx] at hp2
  refine r_skip ?_
  refine r_seq ?_
  refine r_block ?_
  refine r_seq ?_
  refine r_region ?_
  refine l_m rfl ?_
  refine l_x rfl (x_nilCheck rfl) ?_
  refine l_x rfl (x_fieldAddr rfl Tryz.runUnderlying108 rfl Tryz.sizeOf78 (by decide)) ?_
  refine l_x rfl (x_load rfl (ld_blk (hR.blk.keep S1b.le id) Tryz.isAgg78 stL_get)) ?_
  refine l_m rfl ?_
  refine l_index ELZ rfl (hR.lm.le S1b.le) rfl rfl Tryz.runUnderlying78 Tryz.sizeOf84 (by omega) hx ?_
  intro b13 o14 hat15 row16
  refine l_x rfl (x_fieldAddr rfl Tryz.runUnderlying84 rfl Tryz.sizeOf3 (by decide)) ?_
  refine l_x rfl (x_load rfl (ld_cell Tryz.isAgg3 (row16 1 _ rfl))) ?_
  refine l_m rfl ?_
  refine l_x rfl (x_eql rfl rfl) ?_
  refine l_m rfl ?_
  refine l_splitd (d := 70) rfl (fun hg70 => ?_) (fun hg70 => ?_)
  ·skip
   refine l_m rfl ?_
   refine l_x rfl (x_nilCheck rfl) ?_
   refine l_x rfl (x_fieldAddr rfl Tryz.runUnderlying108 rfl Tryz.sizeOf78 (by decide)) ?_
   refine l_x rfl (x_load rfl (ld_blk (hR.blk.keep S1b.le id) Tryz.isAgg78 stL_get)) ?_
   refine l_m rfl ?_
   refine l_index ELZ rfl (hR.lm.le S1b.le) rfl rfl Tryz.runUnderlying78 Tryz.sizeOf84 (by omega) hx ?_
   intro b17 o18 hat19 row20
   refine l_x rfl (x_fieldAddr rfl Tryz.runUnderlying84 rfl Tryz.sizeOf3 (by decide)) ?_
   refine l_x rfl (x_load rfl (ld_cell Tryz.isAgg3 (row20 4 _ rfl))) ?_
   refine l_m rfl ?_
   refine l_x rfl (x_geq rfl rfl) ?_
   refine l_x rfl (x_pick_t rfl rfl) ?_
   refine l_nil ?_
   refine r_ifd rfl (fun hc81 => ?_) (fun hc81 => ?_)
   ·skip
    refine r_region ?_
    refine l_m rfl ?_
    refine l_m rfl ?_
    refine l_x rfl (x_nilCheck rfl) ?_
    refine l_x rfl (x_fieldAddr rfl Tryz.runUnderlying108 rfl Tryz.sizeOf78 (by decide)) ?_
    refine l_x rfl (x_load rfl (ld_blk (hR.blk.keep S1b.le id) Tryz.isAgg78 stL_get)) ?_
    refine l_m rfl ?_
    refine l_index ELZ rfl (hR.lm.le S1b.le) rfl rfl Tryz.runUnderlying78 Tryz.sizeOf84 (by omega) hx ?_
    intro b21 o22 hat23 row24
    refine l_x rfl (x_fieldAddr rfl Tryz.runUnderlying84 rfl Tryz.sizeOf3 (by decide)) ?_
    refine l_x rfl (x_load rfl (ld_cell Tryz.isAgg3 (row24 3 _ rfl))) ?_
    refine l_x rfl (x_add rfl rfl (by rw [if_pos ⟨hg70, by omega⟩] at hp2; omega)) ?_
    refine l_a rfl ?_
    refine l_nil ?_
    refine r_inBlock ?_
    refine r_region ?_
    refine l_m rfl ?_
    refine l_x rfl (x_add rfl rfl (by omega)) ?_
    refine l_a rfl ?_
    refine l_nil ?_
    exact IHb (i + 1) _ _ (by omega) ⟨rfl, rfl, rfl, rfl, (congrArg (Value.int .i64) (by rw [rout_step hx, if_pos ⟨hg70, by omega⟩])), rfl, trivial⟩ ⟨by omega, (S1b.take 0)⟩
   refine r_skip ?_
   refine r_inBlock ?_
   refine r_region ?_
   refine l_m rfl ?_
   refine l_x rfl (x_add rfl rfl (by omega)) ?_
   refine l_a rfl ?_
   refine l_nil ?_
   exact IHb (i + 1) _ _ (by omega) ⟨rfl, rfl, rfl, rfl, (congrArg (Value.int .i64) (by rw [rout_step hx, if_neg (by omega), Int.add_zero])), rfl, trivial⟩ ⟨by omega, (S1b.take 0)⟩
  refine l_pass rfl ?_
  refine l_pass rfl ?_
  refine l_pass rfl ?_
  refine l_pass rfl ?_
  refine l_pass rfl ?_
  refine l_pass rfl ?_
  refine l_pass rfl ?_
  refine l_pass rfl ?_
  refine l_pass rfl ?_
  refine l_pass rfl ?_
  refine l_x rfl (x_pick_f rfl rfl) ?_
  refine l_nil ?_
  refine r_false rfl ?_
  refine r_skip ?_
  refine r_inBlock ?_
  refine r_region ?_
  refine l_m rfl ?_
  refine l_x rfl (x_add rfl rfl (by omega)) ?_
  refine l_a rfl ?_
  refine l_nil ?_
  exact IHb (i + 1) _ _ (by omega) ⟨rfl, rfl, rfl, rfl, (congrArg (Value.int .i64) (by rw [rout_step hx, if_neg (fun h => hg70 h.1), Int.add_zero])), rfl, trivial⟩ ⟨by omega, (S1b.take 0)⟩
 obtain rfl : i = r.ls.length := by omega
 have hoa := rout_all (o := o) hO hld (Nat.le_refl _)
 refine r_exit rfl ?_
 refine r_seq ?_
 refine r_region ?_
 refine l_m rfl ?_
 refine l_m rfl ?_
 refine l_a rfl ?_
 refine l_a rfl ?_
 refine l_nil ?_
 refine r_ret (rs := [.tmp 6, .tmp 7]) [_, _] Tryz.func137 rfl ⟨rfl, rfl, trivial⟩ ?_
 exact ⟨by rw [← hoa]; rfl, S1b.le⟩

set_option maxHeartbeats 2000000 in
theorem c_rfree (b : Nat) (n : SNm) (m : Nat) (s : St) (hm : m ≤ 400) (o day : Int) (ho : 1 ≤ o ∧ o ≤ 40) (hB : StB s) (hld : ∀ x ∈ s.leases, x.day ≤ day) (w : World) (h0 : RO (stS TS b n m s) w) :
  Cl Tryz.prog 168 #[.pointer (some ⟨b, 0, none⟩), .int .i64 o, .int .i64 day] w fun v w' => v = .int .i64 (free s o day) ∧ Le w w' := by
 obtain ⟨r, hR⟩ := StRO.of h0
 have hO := hR.ok
 have hll := r_ll hO hB
 have hpl := hO.pl
 have hel := hO.e
 have hpb := hB.pledged (o := o)
 have hob := hB.outS (o := o) (day := day)
 have hhb := hB.hb o
 have hh := hO.h o.toNat (by omega)
 rw [Int.toNat_of_nonneg (by omega)] at hh
 refine fn_of_run (args := [_, _, _]) 26 Tryz.func168 rfl rfl rfl fun cs => ?_
 have S := Own.start (X := nob) w
 refine r_seq ?_
 refine r_region ?_
 refine l_a rfl ?_
 refine l_nil ?_
 refine r_seq ?_
 refine r_region ?_
 refine l_m rfl ?_
 refine l_m rfl ?_
 refine l_m rfl ?_
 refine l_call [] [] [_, _, _] rfl rfl Tryz.call137 rfl (c_rbound b n m s hm o day hB hld _ (h0.le S.le)) ?_
 rintro _ w1 ⟨rfl, hl3⟩
 have S2 := S.step hl3
 refine l_m rfl ?_
 refine l_x rfl (x_extract rfl rfl) ?_
 refine l_x rfl (x_extract rfl rfl) ?_
 refine l_a rfl ?_
 refine l_a rfl ?_
 refine l_nil ?_
 refine r_seq ?_
 refine r_region ?_
 refine l_m rfl ?_
 refine l_m rfl ?_
 refine l_x rfl (x_nilCheck rfl) ?_
 refine l_x rfl (x_fieldAddr rfl Tryz.runUnderlying108 rfl Tryz.sizeOf104 (by decide)) ?_
 refine l_x rfl (x_indexAddr_array rfl rfl Tryz.runUnderlying104 Tryz.sizeOf3 (by omega)) ?_
 refine l_x rfl (x_load rfl (ld_blk (hR.blk.keep S2.le id) Tryz.isAgg3 (stH_get (by omega)))) ?_
 refine l_m rfl ?_
 refine l_x rfl (x_sub rfl rfl (by omega)) ?_
 refine l_m rfl ?_
 refine l_x rfl (x_sub rfl rfl (by omega)) ?_
 refine l_a rfl ?_
 refine l_nil ?_
 refine r_ret (rs := [.tmp 6]) [_] Tryz.func168 rfl ⟨rfl, trivial⟩ ?_
 exact ⟨congrArg (Value.int .i64) (by unfold free; rw [hh]; omega), S2.le⟩

end Go.Proofs

namespace Go.Proofs
open Go Go.Vk Go.Vk.Flow

open Go.Vk.Deed

theorem rmv_later {a c i : Nat} {f g : Nat → Int} {x y : Int} (hi : i < 401) (h : ∀ j, i ≤ j → j < 401 → f (a * 401 + j) = g (a * 401 + j) ∧ f (c * 401 + j) = g (c * 401 + j)) :
  ∀ j, i + 1 ≤ j → j < 401 → upf (upf f (a * 401 + i) x) (c * 401 + i) y (a * 401 + j) = g (a * 401 + j) ∧ upf (upf f (a * 401 + i) x) (c * 401 + i) y (c * 401 + j) = g (c * 401 + j) := by
 intro j h1 h2
 have := h j (by omega) h2
 rw [upf_ne (by omega), upf_ne (by omega), upf_ne (by omega), upf_ne (by omega)]
 exact this

set_option maxHeartbeats 4000000 in
theorem c_rmove (b : Nat) (n : SNm) (m : Nat) (s : St) (hm : m ≤ 400) (a c k T : Int) (ha : 1 ≤ a ∧ a ≤ 40) (hc : 1 ≤ c ∧ c ≤ 40) (hac : a ≠ c) (hB : StB s) (hBal : Bal s T) (hk0 : 0 ≤ k ∧ k ≤ s.holds a) (w : World) (S0 : Own (stF TS b n) w w [stS TS b n m s]) :
  Cl Tryz.prog 170 #[.pointer (some ⟨b, 0, none⟩), .int .i64 a, .int .i64 c, .int .i64 k] w fun _ w' => ∃ n', Own (stF TS b n) w w' [stS TS b n' m (moveS s a c k)] := by
 refine fn_of_run (args := [_, _, _, _]) 93 Tryz.func170 rfl rfl rfl fun cs => ?_
 obtain ⟨r, hO, S⟩ := Own.stOpen (A := []) S0
 have hha := hO.h a.toNat (by omega)
 have hhc := hO.h c.toNat (by omega)
 rw [Int.toNat_of_nonneg (by omega)] at hha hhc
 have hba := hB.hb a
 have hbc := hB.hb c
 have hcn : c.toNat ≠ a.toNat := by omega
 refine r_seq ?_
 refine r_drawR 13 Tryz.mixed (by kernel_rfl) ?_
 refine w_x rfl (fun w1 h1 => x_mv rfl) ?_
 refine w_x rfl (fun w1 h1 => x_mv rfl) ?_
 refine w_x rfl (fun w1 h1 => x_mv rfl) ?_
 refine w_x rfl (fun w1 h1 => x_mv rfl) ?_
 refine w_x rfl (fun w1 h1 => x_nilCheck rfl) ?_
 refine w_x rfl (fun w1 h1 => x_fieldAddr rfl Tryz.runUnderlying108 rfl Tryz.sizeOf104 (by decide)) ?_
 refine w_x rfl (fun w1 h1 => x_indexAddr_array rfl rfl Tryz.runUnderlying104 Tryz.sizeOf3 (by omega)) ?_
 refine w_x rfl (fun w1 h1 => x_load rfl (ld_blk ((S.step h1).blk 0 rfl) Tryz.isAgg3 (stH_get (by omega)))) ?_
 refine w_x rfl (fun w1 h1 => x_mv rfl) ?_
 refine w_x rfl (fun w1 h1 => x_sub rfl rfl (by omega)) ?_
 refine w_x rfl (fun w1 h1 => x_nilCheck rfl) ?_
 refine w_x rfl (fun w1 h1 => x_fieldAddr rfl Tryz.runUnderlying108 rfl Tryz.sizeOf104 (by decide)) ?_
 refine w_x rfl (fun w1 h1 => x_indexAddr_array rfl rfl Tryz.runUnderlying104 Tryz.sizeOf3 (by omega)) ?_
 refine w_nil ?_
 intro w1 hl2
 have S3 := S.step hl2
 refine l_storeq S3 0 rfl rfl rfl rfl rfl Tryz.sizeOf3 (stH_lt (by omega)) (stH_set (by omega)) ?_
 intro w4 S5 hk6
 refine l_nil ?_
 refine r_seq ?_
 refine r_drawR 13 Tryz.mixed (by kernel_rfl) ?_
 refine w_x rfl (fun w1 h1 => x_mv rfl) ?_
 refine w_x rfl (fun w1 h1 => x_mv rfl) ?_
 refine w_x rfl (fun w1 h1 => x_mv rfl) ?_
 refine w_x rfl (fun w1 h1 => x_mv rfl) ?_
 refine w_x rfl (fun w1 h1 => x_nilCheck rfl) ?_
 refine w_x rfl (fun w1 h1 => x_fieldAddr rfl Tryz.runUnderlying108 rfl Tryz.sizeOf104 (by decide)) ?_
 refine w_x rfl (fun w1 h1 => x_indexAddr_array rfl rfl Tryz.runUnderlying104 Tryz.sizeOf3 (by omega)) ?_
 refine w_x rfl (fun w1 h1 => x_load rfl (ld_blk ((S5.step h1).blk 0 rfl) Tryz.isAgg3 (stH_get (by omega)))) ?_
 refine w_x rfl (fun w1 h1 => x_mv rfl) ?_
 refine w_x rfl (fun w1 h1 => x_add rfl rfl (by rw [upf_ne hcn]; omega)) ?_
 refine w_x rfl (fun w1 h1 => x_nilCheck rfl) ?_
 refine w_x rfl (fun w1 h1 => x_fieldAddr rfl Tryz.runUnderlying108 rfl Tryz.sizeOf104 (by decide)) ?_
 refine w_x rfl (fun w1 h1 => x_indexAddr_array rfl rfl Tryz.runUnderlying104 Tryz.sizeOf3 (by omega)) ?_
 refine w_nil ?_
 intro w7 hl8
 have S9 := S5.step hl8
 refine l_storeq S9 0 rfl rfl rfl rfl rfl Tryz.sizeOf3 (stH_lt (by omega)) (stH_set (by omega)) ?_
 intro w10 S11 hk12
 refine l_nil ?_
 refine r_seq ?_
 refine r_region ?_
 refine l_m rfl ?_
 refine l_a rfl ?_
 refine l_nil ?_
 refine r_seq ?_
 refine r_region ?_
 refine l_a rfl ?_
 refine l_nil ?_
 refine r_block ?_
 refine r_loop (G := Nat × Int × (Nat → Int)) (fun ⟨i, kk, f⟩ => 401 - i) (fun ⟨i, kk, f⟩ => [(0, .pointer (some ⟨b, 0, none⟩)), (1, .int .i64 a), (2, .int .i64 c), (3, .int .i64 k), (8, .int .i64 kk), (9, .int .i64 (i : Int))]) (fun ⟨i, kk, f⟩ w' => (1 ≤ i ∧ i ≤ 401) ∧ (0 ≤ kk ∧ kk ≤ k) ∧ (rmv a.toNat c.toNat (401 - i) i kk f = rmv a.toNat c.toNat 400 1 k r.f) ∧ (∀ j, i ≤ j → j < 401 → f (a.toNat * 401 + j) = r.f (a.toNat * 401 + j) ∧ f (c.toNat * 401 + j) = r.f (c.toNat * 401 + j)) ∧ Own (stF TS b n) w w' [blk b (stC (upf (upf r.h a.toNat (r.h a.toNat - k)) c.toNat (upf r.h a.toNat (r.h a.toNat - k) c.toNat + k)) f n.lv n.pv n.ev n.iv) 108, vec ELZ n.lv r.ls, vec EPL n.pv r.ps, vec EB n.ev r.es, vec EI n.iv r.is]) (1, k, r.f) ⟨rfl, rfl, rfl, rfl, rfl, rfl, trivial⟩ ⟨⟨Nat.le_refl _, by omega⟩, ⟨hk0.1, Int.le_refl _⟩, rfl, (fun _ _ _ => ⟨rfl, rfl⟩), (S11.take 5)⟩ ?_
 rintro ⟨i, kk, f⟩ ρ w1 ⟨hi, hk, hf, hu, S1⟩ IH
 refine r_seq ?_
 refine r_seq ?_
 refine r_region ?_
 refine l_m rfl ?_
 refine l_x rfl (x_leq rfl rfl) ?_
 refine l_m rfl ?_
 refine l_splitd (d := 40) rfl (fun hg40 => ?_) (fun hg40 => ?_)
 ·skip
  refine l_m rfl ?_
  refine l_x rfl (x_gtr rfl rfl) ?_
  refine l_x rfl (x_pick_t rfl rfl) ?_
  refine l_nil ?_
  refine r_ifd rfl (fun hc43 => ?_) (fun hc43 => ?_)
  ·skip
   have hne : (c.toNat * 401 + (i : Int).toNat) ≠ (a.toNat * 401 + (i : Int).toNat) := by omega
   obtain ⟨hu1, hu2⟩ := hu i (Nat.le_refl _) (by omega)
   have hs1 := hO.f a.toNat i (by omega) (by omega)
   have hs2 := hO.f c.toNat i (by omega) (by omega)
   have hb1 := hB.sb a.toNat i
   have hb2 := hB.sb c.toNat i
   rw [← hs1, ← hu1] at hb1
   rw [← hs2, ← hu2] at hb2
   rw [← Int.toNat_natCast i] at hb1 hb2
   refine r_skip ?_
   refine r_seq ?_
   refine r_block ?_
   refine r_seq ?_
   refine r_region ?_
   refine l_m rfl ?_
   refine l_m rfl ?_
   refine l_m rfl ?_
   refine l_m rfl ?_
   refine l_x rfl (x_nilCheck rfl) ?_
   refine l_x rfl (x_fieldAddr rfl Tryz.runUnderlying108 rfl Tryz.sizeOf105 (by decide)) ?_
   refine l_x rfl (x_indexAddr_array rfl rfl Tryz.runUnderlying105 Tryz.sizeOf103 (by omega)) ?_
   refine l_x rfl (x_indexAddr_array rfl rfl Tryz.runUnderlying103 Tryz.sizeOf3 (by omega)) ?_
   refine l_x rfl (x_load rfl (ld_blk (S1.blk 0 rfl) Tryz.isAgg3 (stF_get (by omega) (by omega)))) ?_
   refine l_x rfl (x_min rfl rfl) ?_
   refine l_a rfl ?_
   refine l_nil ?_
   refine r_seq ?_
   refine r_drawR 17 Tryz.mixed (by kernel_rfl) ?_
   refine w_x rfl (fun w1 h1 => x_mv rfl) ?_
   refine w_x rfl (fun w1 h1 => x_mv rfl) ?_
   refine w_x rfl (fun w1 h1 => x_mv rfl) ?_
   refine w_x rfl (fun w1 h1 => x_mv rfl) ?_
   refine w_x rfl (fun w1 h1 => x_mv rfl) ?_
   refine w_x rfl (fun w1 h1 => x_mv rfl) ?_
   refine w_x rfl (fun w1 h1 => x_nilCheck rfl) ?_
   refine w_x rfl (fun w1 h1 => x_fieldAddr rfl Tryz.runUnderlying108 rfl Tryz.sizeOf105 (by decide)) ?_
   refine w_x rfl (fun w1 h1 => x_indexAddr_array rfl rfl Tryz.runUnderlying105 Tryz.sizeOf103 (by omega)) ?_
   refine w_x rfl (fun w1 h1 => x_indexAddr_array rfl rfl Tryz.runUnderlying103 Tryz.sizeOf3 (by omega)) ?_
   refine w_x rfl (fun w1 h1 => x_load rfl (ld_blk ((S1.step h1).blk 0 rfl) Tryz.isAgg3 (stF_get (by omega) (by omega)))) ?_
   refine w_x rfl (fun w1 h1 => x_mv rfl) ?_
   refine w_x rfl (fun w1 h1 => x_sub rfl rfl (by omega)) ?_
   refine w_x rfl (fun w1 h1 => x_nilCheck rfl) ?_
   refine w_x rfl (fun w1 h1 => x_fieldAddr rfl Tryz.runUnderlying108 rfl Tryz.sizeOf105 (by decide)) ?_
   refine w_x rfl (fun w1 h1 => x_indexAddr_array rfl rfl Tryz.runUnderlying105 Tryz.sizeOf103 (by omega)) ?_
   refine w_x rfl (fun w1 h1 => x_indexAddr_array rfl rfl Tryz.runUnderlying103 Tryz.sizeOf3 (by omega)) ?_
   refine w_nil ?_
   intro w13 hl14
   have S15 := S1.step hl14
   refine l_storeq S15 0 rfl rfl rfl rfl rfl Tryz.sizeOf3 (stF_lt (by omega) (by omega)) (stF_set (by omega) (by omega)) ?_
   intro w16 S17 hk18
   refine l_nil ?_
   refine r_seq ?_
   refine r_drawR 17 Tryz.mixed (by kernel_rfl) ?_
   refine w_x rfl (fun w1 h1 => x_mv rfl) ?_
   refine w_x rfl (fun w1 h1 => x_mv rfl) ?_
   refine w_x rfl (fun w1 h1 => x_mv rfl) ?_
   refine w_x rfl (fun w1 h1 => x_mv rfl) ?_
   refine w_x rfl (fun w1 h1 => x_mv rfl) ?_
   refine w_x rfl (fun w1 h1 => x_mv rfl) ?_
   refine w_x rfl (fun w1 h1 => x_nilCheck rfl) ?_
   refine w_x rfl (fun w1 h1 => x_fieldAddr rfl Tryz.runUnderlying108 rfl Tryz.sizeOf105 (by decide)) ?_
   refine w_x rfl (fun w1 h1 => x_indexAddr_array rfl rfl Tryz.runUnderlying105 Tryz.sizeOf103 (by omega)) ?_
   refine w_x rfl (fun w1 h1 => x_indexAddr_array rfl rfl Tryz.runUnderlying103 Tryz.sizeOf3 (by omega)) ?_
   refine w_x rfl (fun w1 h1 => x_load rfl (ld_blk ((S17.step h1).blk 0 rfl) Tryz.isAgg3 (stF_get (by omega) (by omega)))) ?_
   refine w_x rfl (fun w1 h1 => x_mv rfl) ?_
   refine w_x rfl (fun w1 h1 => x_add rfl rfl (by rw [upf_ne hne]; omega)) ?_
   refine w_x rfl (fun w1 h1 => x_nilCheck rfl) ?_
   refine w_x rfl (fun w1 h1 => x_fieldAddr rfl Tryz.runUnderlying108 rfl Tryz.sizeOf105 (by decide)) ?_
   refine w_x rfl (fun w1 h1 => x_indexAddr_array rfl rfl Tryz.runUnderlying105 Tryz.sizeOf103 (by omega)) ?_
   refine w_x rfl (fun w1 h1 => x_indexAddr_array rfl rfl Tryz.runUnderlying103 Tryz.sizeOf3 (by omega)) ?_
   refine w_nil ?_
   intro w19 hl20
   have S21 := S17.step hl20
   refine l_storeq S21 0 rfl rfl rfl rfl rfl Tryz.sizeOf3 (stF_lt (by omega) (by omega)) (stF_set (by omega) (by omega)) ?_
   intro w22 S23 hk24
   refine l_nil ?_
   refine r_region ?_
   refine l_m rfl ?_
   refine l_m rfl ?_
   refine l_x rfl (x_sub rfl rfl (by omega)) ?_
   refine l_a rfl ?_
   refine l_nil ?_
   refine r_inBlock ?_
   refine r_region ?_
   refine l_m rfl ?_
   refine l_x rfl (x_add rfl rfl (by omega)) ?_
   refine l_a rfl ?_
   refine l_nil ?_
   exact IH (i + 1, kk - (min kk (f (a.toNat * 401 + (i : Int).toNat))), (upf (upf f (a.toNat * 401 + (i : Int).toNat) (f (a.toNat * 401 + (i : Int).toNat) - (min kk (f (a.toNat * 401 + (i : Int).toNat))))) (c.toNat * 401 + (i : Int).toNat) (upf f (a.toNat * 401 + (i : Int).toNat) (f (a.toNat * 401 + (i : Int).toNat) - (min kk (f (a.toNat * 401 + (i : Int).toNat)))) (c.toNat * 401 + (i : Int).toNat) + (min kk (f (a.toNat * 401 + (i : Int).toNat)))))) _ _ (by dsimp only; omega) ⟨rfl, rfl, rfl, rfl, rfl, rfl, trivial⟩ ⟨by omega, ⟨by omega, by omega⟩, (by rw [← hf, rmv_go (n := 401 - i) (by omega) (by omega)]; rfl), rmv_later (by omega) hu, (S23.take 5)⟩
  refine r_exit rfl ?_
  refine r_end (rs := []) [] Tryz.func170 rfl trivial ?_
  exact ⟨n, Own.stShut (A := []) S1 (r := { r with h := (upf (upf r.h a.toNat (r.h a.toNat - k)) c.toNat (upf r.h a.toNat (r.h a.toNat - k) c.toNat + k)), f := f }) (by have hdone := hf; rw [rmv_out (by omega)] at hdone; rw [hdone]; have hmv := StOk.moved (a := a.toNat) (c := c.toNat) (k := k) hO hBal (by omega) (by omega) (by omega) (by rw [Int.toNat_of_nonneg (by omega)]; exact hk0); rw [Int.toNat_of_nonneg (by omega), Int.toNat_of_nonneg (by omega)] at hmv; exact hmv)⟩
 refine l_pass rfl ?_
 refine l_pass rfl ?_
 refine l_x rfl (x_pick_f rfl rfl) ?_
 refine l_nil ?_
 refine r_false rfl ?_
 refine r_exit rfl ?_
 refine r_end (rs := []) [] Tryz.func170 rfl trivial ?_
 exact ⟨n, Own.stShut (A := []) S1 (r := { r with h := (upf (upf r.h a.toNat (r.h a.toNat - k)) c.toNat (upf r.h a.toNat (r.h a.toNat - k) c.toNat + k)), f := f }) (by have hdone := hf; rw [rmv_out (by omega)] at hdone; rw [hdone]; have hmv := StOk.moved (a := a.toNat) (c := c.toNat) (k := k) hO hBal (by omega) (by omega) (by omega) (by rw [Int.toNat_of_nonneg (by omega)]; exact hk0); rw [Int.toNat_of_nonneg (by omega), Int.toNat_of_nonneg (by omega)] at hmv; exact hmv)⟩

end Go.Proofs
