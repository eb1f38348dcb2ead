/- Texts joined for claims: G15. -/
import Derived.Test.YtdikpjkdbgfoaaaGreatKcead9183e1
import Derived.Test.YtdikpjkdbgfoaaaGreatKf4cd3ff627
import Derived.Test.YtdikpjkdbgfoaaaGreatKa26803edab
set_option linter.unusedVariables false
set_option linter.unusedSimpArgs false
set_option linter.unusedSectionVars false
namespace Go.Proofs
open Go Go.Vk Go.Vk.Flow

open Go.Vk.Deed
theorem deed_place {rs rq : List Rw} {known : Int} {z : D} (hq : dl rq = if rightD (dl rs) = true then counting (dl rs) known else []) (hm : ∀ b ∈ rq, b ∈ rs) (hz : z ∈ dl rq) : 1 ≤ z.id ∧ z.id ≤ (rs.length : Int) := by
 have hR : rightD (dl rs) = true := by
  cases h : rightD (dl rs) with
  | true => rfl
  | false => rw [h, if_neg (by simp)] at hq; rw [hq] at hz; cases hz
 obtain ⟨b, hb, rfl⟩ := List.mem_map.1 hz
 obtain ⟨i, hi⟩ := List.getElem?_of_mem (hm b hb)
 have h1 := (right_id hR (dl_get hi)).1
 have h2 := (List.getElem?_eq_some_iff.1 hi).1
 omega
theorem lz_fin {m : Nat} {r : RS} {rs rq : List Rw} {known day : Int} (hO : StOk m r (doneD (dl rq) day)) (hq : dl rq = if rightD (dl rs) = true then counting (dl rs) known else []) (hm : ∀ b ∈ rq, b ∈ rs) :
  leasesD (dl rs) known day = sel r.ls (fun x : Lz => decide (day ≤ x.stop)) (fun x : Lz => x.deed) rs.length := by
 obtain ⟨hP, hs⟩ := ctg_play hq
 have hk := play_okay hP hs day
 have hln := on_ln (dl rs) known day
 unfold leasesD
 rw [← ctg_on hq] at hln ⊢
 have e1 : ((doneD (dl rq) day).leases.filter fun x => decide (x.day ≤ day ∧ day ≤ x.stop)).map Ls.z = (r.ls.filter fun x : Lz => decide (day ≤ x.stop)).map fun x => x := by
  rw [List.map_id', hO.l, List.filter_map]
  congr 1
  refine List.filter_congr fun x hx => decide_eq_decide.2 ?_
  have := hk.n.ld x hx
  show x.day ≤ day ∧ day ≤ x.stop ↔ day ≤ x.stop
  omega
 have e2 := sel_sort (L := r.ls) (p := fun x : Lz => decide (day ≤ x.stop)) (f := fun x : Lz => x.deed) (n := rs.length) (g := fun x : Lz => x) (key := fun x : Lz => x.deed) (fun _ => rfl) (fun x hx _ => by
  rw [hO.l] at hx
  obtain ⟨y, hy, rfl⟩ := List.mem_map.1 hx
  obtain ⟨_, _, _, z, hz, _, rfl⟩ := hk.i.lp y hy
  exact deed_place hq hm (List.mem_filter.1 hz).1) (by
  rw [List.map_id', hO.l, List.filter_map, List.map_map]
  exact hln.sublist (List.filter_sublist.map _))
 rw [e1, e2, List.map_id']
theorem pl_fin {m : Nat} {r : RS} {rs rq : List Rw} {known day : Int} (hO : StOk m r (doneD (dl rq) day)) (hq : dl rq = if rightD (dl rs) = true then counting (dl rs) known else []) (hm : ∀ b ∈ rq, b ∈ rs) :
  pledgesD (dl rs) known day = (sel (r.ps.zip r.es) (fun q : Pl × Bool => !q.2) (fun q : Pl × Bool => q.1.deed) rs.length).map (·.1) := by
 obtain ⟨hP, hs⟩ := ctg_play hq
 have hk := play_okay hP hs day
 have hpn := hk.i.pn
 unfold pledgesD
 rw [← ctg_on hq]
 have e1 := hO.p
 unfold inForce at e1
 rw [← e1] at hpn ⊢
 refine sel_sort (f := fun q : Pl × Bool => q.1.deed) (n := rs.length) (fun _ => rfl) (fun q hx hp => ?_) hpn
 have hmem : q.1 ∈ (doneD (dl rq) day).pledges := by rw [← e1]; exact List.mem_map.2 ⟨q, List.mem_filter.2 ⟨hx, hp⟩, rfl⟩
 obtain ⟨_, _, _, z, hz, _, e⟩ := hk.i.pp q.1 hmem
 rw [e]
 exact deed_place hq hm (List.mem_filter.1 hz).1

set_option maxHeartbeats 4000000 in
theorem c_rLeases (rs : List Rw) (vl : Value) (known : Int) (day : Int) (hlr : rs.length ≤ 1000000000) (w : World) (hD : DsR 26 3 w vl rs) :
  Cl Tryz.prog 69 #[vl, .int .i64 known, .int .i64 day] w fun v w' => New w w' (vec ELZ v (leasesD (dl rs) known day)) ∧ Le w w' := by
 have hml := hD.lm
 refine fn_of_run (args := [_, _, _]) 64 Tryz.func69 rfl rfl rfl fun cs => ?_
 have S := Own.start (X := nob) w
 refine r_seq ?_
 refine r_region ?_
 refine l_a rfl ?_
 refine l_nil ?_
 refine r_seq ?_
 refine r_region ?_
 refine l_m rfl ?_
 refine l_m rfl ?_
 refine l_call [] [] [_, _] rfl rfl Tryz.call50 rfl (c_rCounting rs vl known _ (hD.le S.le)) ?_
 rintro v131 w1 ⟨rq131, hq131, hm131, hN131, hl131⟩
 have S2 := S.add hl131 hN131
 obtain ⟨rq, hrqe⟩ : ∃ q, q = rq131 := ⟨_, rfl⟩
 subst hrqe
 have hqq := hq131
 have hqm := hm131
 have hlq := ctg_len hqq
 obtain ⟨hqp, hqs⟩ := ctg_play hqq
 refine l_m rfl ?_
 refine l_call [] [] [_, _] rfl rfl Tryz.call87 rfl (c_rplay rq _ day hqp hqs _ (hD.mem (S2).le (vec_rd ((S2).at 0 rfl)) hqm (by omega))) ?_
 rintro _ w3 ⟨bs, ns, ms, hms, rfl, hb5⟩
 have S4 := S2.join hb5
 obtain ⟨r, hO, S6⟩ := Own.stOpen (A := [_]) S4
 refine l_a rfl ?_
 refine l_nil ?_
 refine r_seq ?_
 have hok := play_okay hqp hqs day
 have hll := r_ll hO hok.b
 refine r_region ?_
 refine l_a rfl ?_
 have S7 := S6.nilvec (E := ELZ)
 refine l_nil ?_
 refine r_seq ?_
 refine r_seq ?_
 refine r_region ?_
 refine l_a rfl ?_
 refine l_nil ?_
 refine r_block ?_
 refine r_loop (G := Nat × Value) (fun ⟨k, vo⟩ => rs.length - k) (fun ⟨k, vo⟩ => [(0, vl), (2, .int .i64 day), (7, .pointer (some ⟨bs, 0, none⟩)), (8, vo), (9, .int .i64 ((k : Int) + 1))]) (fun ⟨k, vo⟩ w' => (k ≤ rs.length) ∧ Own nob w w' [blk bs (stC r.h r.f ns.lv ns.pv ns.ev ns.iv) 108, vec ELZ ns.lv r.ls, vec ELZ vo (sel r.ls (fun x : Lz => decide (day ≤ x.stop)) (fun x : Lz => x.deed) k)]) (0, .slice none 0 0) ⟨rfl, rfl, rfl, rfl, rfl, trivial⟩ ⟨Nat.zero_le _, (S7.pick (L' := [_, _, _]) [1, 2, 6] (by decide) rfl)⟩ ?_
 rintro ⟨k, vo⟩ ρ w1 ⟨hk, S1⟩ IH
 refine r_seq ?_
 refine r_seq ?_
 refine r_region ?_
 refine l_m rfl ?_
 refine l_m rfl ?_
 refine l_x rfl (x_len (hD.rd.le S1.le) rfl Tryz.runUnderlying23) ?_
 refine l_x rfl (x_leq rfl rfl) ?_
 refine l_nil ?_
 refine r_ifd rfl (fun hc19 => ?_) (fun hc19 => ?_)
 ·skip
  refine r_skip ?_
  refine r_seq ?_
  refine r_block ?_
  refine r_seq ?_
  refine r_region ?_
  refine l_a rfl ?_
  refine l_nil ?_
  refine r_block ?_
  refine r_loop (G := Nat × Value) (fun ⟨i, vp⟩ => r.ls.length - i) (fun ⟨i, vp⟩ => [(0, vl), (2, .int .i64 day), (7, .pointer (some ⟨bs, 0, none⟩)), (8, vp), (9, .int .i64 ((k : Int) + 1)), (10, .int .i64 i)]) (fun ⟨i, vp⟩ w' => (i ≤ r.ls.length) ∧ Own nob w w' [blk bs (stC r.h r.f ns.lv ns.pv ns.ev ns.iv) 108, vec ELZ ns.lv r.ls, vec ELZ vp (sel r.ls (fun x : Lz => decide (day ≤ x.stop)) (fun x : Lz => x.deed) k ++ (r.ls.take i).filter (at9 (fun x : Lz => decide (day ≤ x.stop)) (fun x : Lz => x.deed) k))]) (0, vo) ⟨rfl, rfl, rfl, rfl, rfl, rfl, trivial⟩ ⟨Nat.zero_le _, (by rw [List.take_zero, List.filter_nil, List.append_nil]; exact S1.take 3)⟩ ?_
  rintro ⟨i, vp⟩ ρ w1b ⟨hi, S1b⟩ IHb
  refine r_seq ?_
  refine r_seq ?_
  refine r_region ?_
  refine l_m rfl ?_
  refine l_m rfl ?_
  refine l_x rfl (x_nilCheck rfl) ?_
  refine l_x rfl (x_fieldAddr rfl Tryz.runUnderlying108 rfl Tryz.sizeOf78 (by decide)) ?_
  refine l_x rfl (x_load rfl (ld_blk (S1b.blk 0 rfl) Tryz.isAgg78 stL_get)) ?_
  refine l_x rfl (x_len (vec_rd (S1b.at 1 rfl)) rfl Tryz.runUnderlying78) ?_
  refine l_x rfl (x_lss rfl rfl) ?_
  refine l_nil ?_
  refine r_ifd rfl (fun hc28 => ?_) (fun hc28 => ?_)
  ·skip
   obtain ⟨x, hx⟩ : ∃ x, r.ls[i]? = some x := ⟨_, List.getElem?_eq_getElem (by omega)⟩
   refine r_skip ?_
   refine r_seq ?_
   refine r_block ?_
   refine r_seq ?_
   refine r_region ?_
   refine l_m rfl ?_
   refine l_x rfl (x_nilCheck rfl) ?_
   refine l_x rfl (x_fieldAddr rfl Tryz.runUnderlying108 rfl Tryz.sizeOf78 (by decide)) ?_
   refine l_x rfl (x_load rfl (ld_blk (S1b.blk 0 rfl) Tryz.isAgg78 stL_get)) ?_
   refine l_m rfl ?_
   refine l_index ELZ rfl (vec_rd (S1b.at 1 rfl)) rfl rfl Tryz.runUnderlying78 Tryz.sizeOf84 (by omega) hx ?_
   intro b8 o9 hat10 row11
   refine l_x rfl (x_fieldAddr rfl Tryz.runUnderlying84 rfl Tryz.sizeOf3 (by decide)) ?_
   refine l_x rfl (x_load rfl (ld_cell Tryz.isAgg3 (row11 0 _ rfl))) ?_
   refine l_m rfl ?_
   refine l_x rfl (x_eql rfl rfl) ?_
   refine l_m rfl ?_
   refine l_splitd (d := 41) rfl (fun hg41 => ?_) (fun hg41 => ?_)
   ·skip
    refine l_m rfl ?_
    refine l_x rfl (x_nilCheck rfl) ?_
    refine l_x rfl (x_fieldAddr rfl Tryz.runUnderlying108 rfl Tryz.sizeOf78 (by decide)) ?_
    refine l_x rfl (x_load rfl (ld_blk (S1b.blk 0 rfl) Tryz.isAgg78 stL_get)) ?_
    refine l_m rfl ?_
    refine l_index ELZ rfl (vec_rd (S1b.at 1 rfl)) rfl rfl Tryz.runUnderlying78 Tryz.sizeOf84 (by omega) hx ?_
    intro b12 o13 hat14 row15
    refine l_x rfl (x_fieldAddr rfl Tryz.runUnderlying84 rfl Tryz.sizeOf3 (by decide)) ?_
    refine l_x rfl (x_load rfl (ld_cell Tryz.isAgg3 (row15 4 _ rfl))) ?_
    refine l_m rfl ?_
    refine l_x rfl (x_geq rfl rfl) ?_
    refine l_x rfl (x_pick_t rfl rfl) ?_
    refine l_nil ?_
    refine r_ifd rfl (fun hc52 => ?_) (fun hc52 => ?_)
    ·skip
     refine r_region ?_
     refine l_m rfl ?_
     refine l_m rfl ?_
     refine l_x rfl (x_nilCheck rfl) ?_
     refine l_x rfl (x_fieldAddr rfl Tryz.runUnderlying108 rfl Tryz.sizeOf78 (by decide)) ?_
     refine l_x rfl (x_load rfl (ld_blk (S1b.blk 0 rfl) Tryz.isAgg78 stL_get)) ?_
     refine l_m rfl ?_
     refine l_index ELZ rfl (vec_rd (S1b.at 1 rfl)) rfl rfl Tryz.runUnderlying78 Tryz.sizeOf84 (by omega) hx ?_
     intro b16 o17 hat18 row19
     refine l_x rfl (x_load rfl (ld_row Tryz.isAgg84 Tryz.sizeOf84 rfl row19)) ?_
     refine l_buildSlice ELZ [x] S1b rfl Tryz.runUnderlying78 Tryz.sizeOf84 Tryz.zeroValue84 rfl ⟨rfl, rfl, trivial⟩ (Nat.le_of_ble_eq_true rfl) ?_
     intro v23 w20 S21 hl22
     refine l_append ELZ S21 2 rfl rfl rfl rfl (vec_rd (S21.at 3 rfl)) Tryz.underlying78 info84 rfl rfl rfl (by have := sel_part (L := r.ls) (p := fun x : Lz => decide (day ≤ x.stop)) (f := fun x : Lz => x.deed) k i; unfold maxLen; rw [List.length_singleton]; omega) (by have := sel_part (L := r.ls) (p := fun x : Lz => decide (day ≤ x.stop)) (f := fun x : Lz => x.deed) k i; rw [List.length_singleton]; show _ * 40 ≤ _; omega) ?_
     intro v27 w24 S25 hk26 hv28
     refine l_a rfl ?_
     refine l_nil ?_
     refine r_inBlock ?_
     refine r_region ?_
     refine l_m rfl ?_
     refine l_x rfl (x_add rfl rfl (by omega)) ?_
     refine l_a rfl ?_
     refine l_nil ?_
     exact IHb (i + 1, v27) _ _ (by dsimp only; omega) ⟨rfl, rfl, rfl, rfl, rfl, rfl, trivial⟩ ⟨by omega, (by rw [filt_one hx, if_pos (by simp only [Bool.and_eq_true, decide_eq_true_eq]; omega), ← List.append_assoc]; exact S25.take 3)⟩
    refine r_skip ?_
    refine r_inBlock ?_
    refine r_region ?_
    refine l_m rfl ?_
    refine l_x rfl (x_add rfl rfl (by omega)) ?_
    refine l_a rfl ?_
    refine l_nil ?_
    exact IHb (i + 1, vp) _ _ (by dsimp only; omega) ⟨rfl, rfl, rfl, rfl, rfl, rfl, trivial⟩ ⟨by omega, (by rw [filt_one hx, if_neg (by simp only [Bool.and_eq_true, decide_eq_true_eq]; omega), List.append_nil]; exact S1b.take 3)⟩
   refine l_pass rfl ?_
   refine l_pass rfl ?_
   refine l_pass rfl ?_
   refine l_pass rfl ?_
   refine l_pass rfl ?_
   refine l_pass rfl ?_
   refine l_pass rfl ?_
   refine l_pass rfl ?_
   refine l_pass rfl ?_
   refine l_pass rfl ?_
   refine l_x rfl (x_pick_f rfl rfl) ?_
   refine l_nil ?_
   refine r_false rfl ?_
   refine r_skip ?_
   refine r_inBlock ?_
   refine r_region ?_
   refine l_m rfl ?_
   refine l_x rfl (x_add rfl rfl (by omega)) ?_
   refine l_a rfl ?_
   refine l_nil ?_
   exact IHb (i + 1, vp) _ _ (by dsimp only; omega) ⟨rfl, rfl, rfl, rfl, rfl, rfl, trivial⟩ ⟨by omega, (by rw [filt_one hx, if_neg (by simp only [Bool.and_eq_true, decide_eq_true_eq]; omega), List.append_nil]; exact S1b.take 3)⟩
  obtain rfl : i = r.ls.length := by omega
  refine r_exit rfl ?_
  refine r_inBlock ?_
  refine r_region ?_
  refine l_m rfl ?_
  refine l_x rfl (x_add rfl rfl (by omega)) ?_
  refine l_a rfl ?_
  refine l_nil ?_
  exact IH (k + 1, vp) _ _ (by dsimp only; omega) ⟨rfl, rfl, rfl, rfl, rfl, trivial⟩ ⟨by omega, (by have hS := S1b.take 3; rw [List.take_length] at hS; exact hS)⟩
 obtain rfl : k = rs.length := by omega
 refine r_exit rfl ?_
 refine r_seq ?_
 refine r_region ?_
 refine l_m rfl ?_
 refine l_a rfl ?_
 refine l_nil ?_
 refine r_ret (rs := [.tmp 6]) [_] Tryz.func69 rfl ⟨rfl, trivial⟩ ?_
 exact ⟨by rw [lz_fin hO hqq hqm]; exact S1.new 2 rfl, S1.le⟩

set_option maxHeartbeats 4000000 in
theorem c_rPledges (rs : List Rw) (vl : Value) (known : Int) (day : Int) (hlr : rs.length ≤ 1000000000) (w : World) (hD : DsR 26 3 w vl rs) :
  Cl Tryz.prog 72 #[vl, .int .i64 known, .int .i64 day] w fun v w' => New w w' (vec EPL v (pledgesD (dl rs) known day)) ∧ Le w w' := by
 have hml := hD.lm
 refine fn_of_run (args := [_, _, _]) 62 Tryz.func72 rfl rfl rfl fun cs => ?_
 have S := Own.start (X := nob) w
 refine r_seq ?_
 refine r_region ?_
 refine l_a rfl ?_
 refine l_nil ?_
 refine r_seq ?_
 refine r_region ?_
 refine l_m rfl ?_
 refine l_m rfl ?_
 refine l_call [] [] [_, _] rfl rfl Tryz.call50 rfl (c_rCounting rs vl known _ (hD.le S.le)) ?_
 rintro v131 w1 ⟨rq131, hq131, hm131, hN131, hl131⟩
 have S2 := S.add hl131 hN131
 obtain ⟨rq, hrqe⟩ : ∃ q, q = rq131 := ⟨_, rfl⟩
 subst hrqe
 have hqq := hq131
 have hqm := hm131
 have hlq := ctg_len hqq
 obtain ⟨hqp, hqs⟩ := ctg_play hqq
 refine l_m rfl ?_
 refine l_call [] [] [_, _] rfl rfl Tryz.call87 rfl (c_rplay rq _ day hqp hqs _ (hD.mem (S2).le (vec_rd ((S2).at 0 rfl)) hqm (by omega))) ?_
 rintro _ w3 ⟨bs, ns, ms, hms, rfl, hb5⟩
 have S4 := S2.join hb5
 obtain ⟨r, hO, S6⟩ := Own.stOpen (A := [_]) S4
 refine l_a rfl ?_
 refine l_nil ?_
 refine r_seq ?_
 have hpl := hO.pl
 have hel := hO.e
 refine r_region ?_
 refine l_a rfl ?_
 have S7 := S6.nilvec (E := EPL)
 refine l_nil ?_
 refine r_seq ?_
 refine r_seq ?_
 refine r_region ?_
 refine l_a rfl ?_
 refine l_nil ?_
 refine r_block ?_
 refine r_loop (G := Nat × Value) (fun ⟨k, vo⟩ => rs.length - k) (fun ⟨k, vo⟩ => [(0, vl), (2, .int .i64 day), (7, .pointer (some ⟨bs, 0, none⟩)), (8, vo), (9, .int .i64 ((k : Int) + 1))]) (fun ⟨k, vo⟩ w' => (k ≤ rs.length) ∧ Own nob w w' [blk bs (stC r.h r.f ns.lv ns.pv ns.ev ns.iv) 108, vec EPL ns.pv r.ps, vec EB ns.ev r.es, vec EPL vo ((sel (r.ps.zip r.es) (fun q : Pl × Bool => !q.2) (fun q : Pl × Bool => q.1.deed) k).map (·.1))]) (0, .slice none 0 0) ⟨rfl, rfl, rfl, rfl, rfl, trivial⟩ ⟨Nat.zero_le _, (S7.pick (L' := [_, _, _, _]) [1, 3, 4, 6] (by decide) rfl)⟩ ?_
 rintro ⟨k, vo⟩ ρ w1 ⟨hk, S1⟩ IH
 refine r_seq ?_
 refine r_seq ?_
 refine r_region ?_
 refine l_m rfl ?_
 refine l_m rfl ?_
 refine l_x rfl (x_len (hD.rd.le S1.le) rfl Tryz.runUnderlying23) ?_
 refine l_x rfl (x_leq rfl rfl) ?_
 refine l_nil ?_
 refine r_ifd rfl (fun hc19 => ?_) (fun hc19 => ?_)
 ·skip
  refine r_skip ?_
  refine r_seq ?_
  refine r_block ?_
  refine r_seq ?_
  refine r_region ?_
  refine l_a rfl ?_
  refine l_nil ?_
  refine r_block ?_
  refine r_loop (G := Nat × Value) (fun ⟨i, vp⟩ => r.ps.length - i) (fun ⟨i, vp⟩ => [(0, vl), (2, .int .i64 day), (7, .pointer (some ⟨bs, 0, none⟩)), (8, vp), (9, .int .i64 ((k : Int) + 1)), (10, .int .i64 i)]) (fun ⟨i, vp⟩ w' => (i ≤ r.ps.length) ∧ Own nob w w' [blk bs (stC r.h r.f ns.lv ns.pv ns.ev ns.iv) 108, vec EPL ns.pv r.ps, vec EB ns.ev r.es, vec EPL vp (((sel (r.ps.zip r.es) (fun q : Pl × Bool => !q.2) (fun q : Pl × Bool => q.1.deed) k) ++ ((r.ps.zip r.es).take i).filter (at9 (fun q : Pl × Bool => !q.2) (fun q : Pl × Bool => q.1.deed) k)).map (·.1))]) (0, vo) ⟨rfl, rfl, rfl, rfl, rfl, rfl, trivial⟩ ⟨Nat.zero_le _, (by rw [List.take_zero, List.filter_nil, List.append_nil]; exact S1.take 4)⟩ ?_
  rintro ⟨i, vp⟩ ρ w1b ⟨hi, S1b⟩ IHb
  refine r_seq ?_
  refine r_seq ?_
  refine r_region ?_
  refine l_m rfl ?_
  refine l_m rfl ?_
  refine l_x rfl (x_nilCheck rfl) ?_
  refine l_x rfl (x_fieldAddr rfl Tryz.runUnderlying108 rfl Tryz.sizeOf81 (by decide)) ?_
  refine l_x rfl (x_load rfl (ld_blk (S1b.blk 0 rfl) Tryz.isAgg81 stP_get)) ?_
  refine l_x rfl (x_len (vec_rd (S1b.at 1 rfl)) rfl Tryz.runUnderlying81) ?_
  refine l_x rfl (x_lss rfl rfl) ?_
  refine l_nil ?_
  refine r_ifd rfl (fun hc28 => ?_) (fun hc28 => ?_)
  ·skip
   obtain ⟨p, hp⟩ : ∃ x, r.ps[i]? = some x := ⟨_, List.getElem?_eq_getElem (by omega)⟩
   obtain ⟨e, he⟩ : ∃ x, r.es[i]? = some x := ⟨_, List.getElem?_eq_getElem (by omega)⟩
   have hz := zip_get hp he
   refine r_skip ?_
   refine r_seq ?_
   refine r_block ?_
   refine r_seq ?_
   refine r_region ?_
   refine l_m rfl ?_
   refine l_x rfl (x_nilCheck rfl) ?_
   refine l_x rfl (x_fieldAddr rfl Tryz.runUnderlying108 rfl Tryz.sizeOf81 (by decide)) ?_
   refine l_x rfl (x_load rfl (ld_blk (S1b.blk 0 rfl) Tryz.isAgg81 stP_get)) ?_
   refine l_m rfl ?_
   refine l_index EPL rfl (vec_rd (S1b.at 1 rfl)) rfl rfl Tryz.runUnderlying81 Tryz.sizeOf86 (by omega) hp ?_
   intro b8 o9 hat10 row11
   refine l_x rfl (x_fieldAddr rfl Tryz.runUnderlying86 rfl Tryz.sizeOf3 (by decide)) ?_
   refine l_x rfl (x_load rfl (ld_cell Tryz.isAgg3 (row11 0 _ rfl))) ?_
   refine l_m rfl ?_
   refine l_x rfl (x_eql rfl rfl) ?_
   refine l_m rfl ?_
   refine l_splitd (d := 41) rfl (fun hg41 => ?_) (fun hg41 => ?_)
   ·skip
    refine l_m rfl ?_
    refine l_x rfl (x_nilCheck rfl) ?_
    refine l_x rfl (x_fieldAddr rfl Tryz.runUnderlying108 rfl Tryz.sizeOf106 (by decide)) ?_
    refine l_x rfl (x_load rfl (ld_blk (S1b.blk 0 rfl) Tryz.isAgg106 stE_get)) ?_
    refine l_m rfl ?_
    refine l_index EB rfl (vec_rd (S1b.at 2 rfl)) rfl rfl Tryz.runUnderlying106 Tryz.sizeOf4 (by omega) he ?_
    intro b12 o13 hat14 row15
    refine l_x rfl (x_load rfl (ld_cell Tryz.isAgg4 (row15 0 _ rfl))) ?_
    refine l_x rfl (x_not rfl) ?_
    refine l_x rfl (x_pick_t rfl rfl) ?_
    refine l_nil ?_
    refine r_if rfl (fun hc50 => ?_) (fun hc50 => ?_)
    ·skip
     refine r_region ?_
     refine l_m rfl ?_
     refine l_m rfl ?_
     refine l_x rfl (x_nilCheck rfl) ?_
     refine l_x rfl (x_fieldAddr rfl Tryz.runUnderlying108 rfl Tryz.sizeOf81 (by decide)) ?_
     refine l_x rfl (x_load rfl (ld_blk (S1b.blk 0 rfl) Tryz.isAgg81 stP_get)) ?_
     refine l_m rfl ?_
     refine l_index EPL rfl (vec_rd (S1b.at 1 rfl)) rfl rfl Tryz.runUnderlying81 Tryz.sizeOf86 (by omega) hp ?_
     intro b16 o17 hat18 row19
     refine l_x rfl (x_load rfl (ld_row Tryz.isAgg86 Tryz.sizeOf86 rfl row19)) ?_
     refine l_buildSlice EPL [p] S1b rfl Tryz.runUnderlying81 Tryz.sizeOf86 Tryz.zeroValue86 rfl ⟨rfl, rfl, trivial⟩ (Nat.le_of_ble_eq_true rfl) ?_
     intro v23 w20 S21 hl22
     refine l_append EPL S21 3 rfl rfl rfl rfl (vec_rd (S21.at 4 rfl)) Tryz.underlying81 info86 rfl rfl rfl (by have := sel_part (L := (r.ps.zip r.es)) (p := fun q : Pl × Bool => !q.2) (f := fun q : Pl × Bool => q.1.deed) k i; rw [List.length_zip] at this; unfold maxLen; rw [List.length_singleton, List.length_map]; omega) (by have := sel_part (L := (r.ps.zip r.es)) (p := fun q : Pl × Bool => !q.2) (f := fun q : Pl × Bool => q.1.deed) k i; rw [List.length_zip] at this; rw [List.length_singleton, List.length_map]; show _ * 32 ≤ _; omega) ?_
     intro v27 w24 S25 hk26 hv28
     refine l_a rfl ?_
     refine l_nil ?_
     refine r_inBlock ?_
     refine r_region ?_
     refine l_m rfl ?_
     refine l_x rfl (x_add rfl rfl (by omega)) ?_
     refine l_a rfl ?_
     refine l_nil ?_
     exact IHb (i + 1, v27) _ _ (by dsimp only; omega) ⟨rfl, rfl, rfl, rfl, rfl, rfl, trivial⟩ ⟨by omega, (by rw [filt_one hz, if_pos (by simp only [Bool.and_eq_true, decide_eq_true_eq]; exact ⟨by omega, hc50⟩), ← List.append_assoc, List.map_append]; exact S25.take 4)⟩
    refine r_skip ?_
    refine r_inBlock ?_
    refine r_region ?_
    refine l_m rfl ?_
    refine l_x rfl (x_add rfl rfl (by omega)) ?_
    refine l_a rfl ?_
    refine l_nil ?_
    exact IHb (i + 1, vp) _ _ (by dsimp only; omega) ⟨rfl, rfl, rfl, rfl, rfl, rfl, trivial⟩ ⟨by omega, (by rw [filt_one hz, if_neg (by simp only [Bool.and_eq_true, decide_eq_true_eq]; intro h; rw [h.2] at hc50; simp at hc50), List.append_nil]; exact S1b.take 4)⟩
   refine l_pass rfl ?_
   refine l_pass rfl ?_
   refine l_pass rfl ?_
   refine l_pass rfl ?_
   refine l_pass rfl ?_
   refine l_pass rfl ?_
   refine l_pass rfl ?_
   refine l_pass rfl ?_
   refine l_x rfl (x_pick_f rfl rfl) ?_
   refine l_nil ?_
   refine r_false rfl ?_
   refine r_skip ?_
   refine r_inBlock ?_
   refine r_region ?_
   refine l_m rfl ?_
   refine l_x rfl (x_add rfl rfl (by omega)) ?_
   refine l_a rfl ?_
   refine l_nil ?_
   exact IHb (i + 1, vp) _ _ (by dsimp only; omega) ⟨rfl, rfl, rfl, rfl, rfl, rfl, trivial⟩ ⟨by omega, (by rw [filt_one hz, if_neg (by simp only [Bool.and_eq_true, decide_eq_true_eq]; intro h; omega), List.append_nil]; exact S1b.take 4)⟩
  obtain rfl : i = r.ps.length := by omega
  refine r_exit rfl ?_
  refine r_inBlock ?_
  refine r_region ?_
  refine l_m rfl ?_
  refine l_x rfl (x_add rfl rfl (by omega)) ?_
  refine l_a rfl ?_
  refine l_nil ?_
  exact IH (k + 1, vp) _ _ (by dsimp only; omega) ⟨rfl, rfl, rfl, rfl, rfl, trivial⟩ ⟨by omega, (by have hS := S1b.take 4; rw [show (r.ps.zip r.es).take r.ps.length = (r.ps.zip r.es) from List.take_of_length_le (by rw [List.length_zip]; omega)] at hS; exact hS)⟩
 obtain rfl : k = rs.length := by omega
 refine r_exit rfl ?_
 refine r_seq ?_
 refine r_region ?_
 refine l_m rfl ?_
 refine l_a rfl ?_
 refine l_nil ?_
 refine r_ret (rs := [.tmp 6]) [_] Tryz.func72 rfl ⟨rfl, trivial⟩ ?_
 exact ⟨by rw [pl_fin hO hqq hqm]; exact S1.new 3 rfl, S1.le⟩

end Go.Proofs
