/- Texts joined for claims: LBound. -/
import Derived.Test.YtdikpjkdbgfoaaaGreatKa6e53d0bdc
import Derived.Test.YtdikpjkdbgfoaaaGreatKe5e6e1f817
/-
  Contracts of functions of the program: each by symbolic execution of its text.
-/
namespace Go.Proofs
open Go Go.Vk Go.Vk.Flow

open Go.Vk.Deed
section
variable {l : List D} {known day o : Int}
theorem sumF_filter {α : Type} {p q : α → Bool} {f : α → Int} {l : List α} : sumF p f (l.filter q) = sumF (fun x => q x && p x) f l := by
  unfold sumF
  rw [List.filter_filter]
  congr 2
  exact List.filter_congr fun x _ => Bool.and_comm ..
theorem sumF_congr {α : Type} {p q : α → Bool} {f : α → Int} {l : List α} (h : ∀ x ∈ l, p x = q x) : sumF p f l = sumF q f l := by
  unfold sumF; rw [List.filter_congr h]
theorem ls_out : sumF (fun x : Lz => decide (x.frm = o)) (·.parts) (leasesD l known day) = outS (onD l known day) o day := by
  unfold leasesD outS
  rw [sumF_perm (List.mergeSort_perm _ _), sumF_map, sumF_filter]
  exact sumF_congr fun x _ => by show (decide (x.day ≤ day ∧ day ≤ x.stop) && decide (x.frm = o)) = _; rw [← Bool.decide_and]; exact decide_eq_decide.2 (by omega)
theorem ls_inn : sumF (fun x : Lz => decide (x.to = o)) (·.parts) (leasesD l known day) = inS (onD l known day) o day := by
  unfold leasesD inS
  rw [sumF_perm (List.mergeSort_perm _ _), sumF_map, sumF_filter]
  exact sumF_congr fun x _ => by show (decide (x.day ≤ day ∧ day ≤ x.stop) && decide (x.to = o)) = _; rw [← Bool.decide_and]; exact decide_eq_decide.2 (by omega)
theorem ps_pl : sumF (fun x : Pl => decide (x.frm = o)) (·.parts) (pledgesD l known day) = pledged (onD l known day) o := sumF_perm (List.mergeSort_perm _ _)
theorem ls_mem {x : Lz} (hx : x ∈ leasesD l known day) : ∃ y ∈ (onD l known day).leases, (y.day ≤ day ∧ day ≤ y.stop) ∧ y.z = x := by
  obtain ⟨y, hy, e⟩ := List.mem_map.1 ((List.mergeSort_perm _ _).mem_iff.1 hx)
  obtain ⟨h1, h2⟩ := List.mem_filter.1 hy
  exact ⟨y, h1, by simpa using h2, e⟩
theorem ls_bd {x : Lz} (hx : x ∈ leasesD l known day) : 0 ≤ x.parts ∧ x.parts ≤ 1000000000 := by
  obtain ⟨y, hy, _, rfl⟩ := ls_mem hx
  exact (on_stb l known day).lp y hy
theorem ps_bd {x : Pl} (hx : x ∈ pledgesD l known day) : 0 ≤ x.parts ∧ x.parts ≤ 1000000000 := (on_stb l known day).pp x ((List.mergeSort_perm _ _).mem_iff.1 hx)
theorem ls_stop {x : Lz} (hx : x ∈ leasesD l known day) : day ≤ x.stop := by
  obtain ⟨y, hy, h, rfl⟩ := ls_mem hx
  exact h.2
theorem ls_sorted : (leasesD l known day).Pairwise fun a b => a.deed < b.deed := by
  have h1 := List.pairwise_mergeSort (le := fun x y : Lz => decide (x.deed ≤ y.deed)) (fun a b c => by simp; omega) (fun a b => by simp; omega) (((onD l known day).leases.filter fun x => decide (x.day ≤ day ∧ day ≤ x.stop)).map (·.z))
  have h2 : ((leasesD l known day).map (·.deed)).Nodup := by
    refine (((List.mergeSort_perm _ _).map _).nodup_iff).2 ?_
    rw [List.map_map]
    exact (on_ln l known day).sublist (List.filter_sublist.map _)
  exact List.Pairwise.imp₂ (fun a b h g => by simp at h; omega) h1 (List.pairwise_map.1 h2)
theorem ls_prev {i : Nat} {x y : Lz} (hx : (leasesD l known day)[i]? = some x) (hy : (leasesD l known day)[i - 1]? = some y) (hi : 0 < i) : y.deed < x.deed := by
  obtain ⟨g1, g2⟩ := List.getElem?_eq_some_iff.1 hy
  obtain ⟨g3, g4⟩ := List.getElem?_eq_some_iff.1 hx
  have := (List.pairwise_iff_getElem.1 (ls_sorted (l := l) (known := known) (day := day))) (i - 1) i g1 g3 (by omega)
  rw [g2, g4] at this; exact this
theorem ls_ix (hR : rightD l = true) {rq : List Rw} (hq : dl rq = counting l known) {x : Lz} (hx : x ∈ leasesD l known day) : 0 ≤ idx (fun a : Rw => decide (a.1.id = x.deed)) rq := by
  obtain ⟨y, hy, _, rfl⟩ := ls_mem hx
  obtain ⟨_, _, _, z, hz, _, rfl⟩ := (on_sti (known := known) (day := day) hR).lp y hy
  have hzc := (List.mem_filter.1 hz).1
  rw [← hq] at hzc
  obtain ⟨a, ha, e⟩ := List.mem_map.1 hzc
  rw [idx_ge, List.any_eq_true]
  exact ⟨a, ha, by simp [Ls.z, e]⟩
end
theorem cells5 {a b c d e a' b' c' d' e' : Int} (h1 : a = a') (h2 : b = b') (h3 : c = c') (h4 : d = d') (h5 : e = e') : [i64 a, i64 b, i64 c, i64 d, i64 e] = [i64 a', i64 b', i64 c', i64 d', i64 e'] := by
  subst h1; subst h2; subst h3; subst h4; subst h5; rfl
theorem own_cells {X : Nat → Prop} {w0 w : World} {r1 r2 : Rsc} {b : Nat} {c c' : List Value} {T : TypeId} (S : Own X w0 w [r1, r2, blk b c T]) (e : c = c') : Own X w0 w [r1, r2, blk b c' T] := e ▸ S
theorem sumF_bd9 {α : Type} {p : α → Bool} {f : α → Int} {l : List α} (hl : l.length ≤ 400) (h : ∀ x ∈ l, 0 ≤ f x ∧ f x ≤ 1000000000) (n : Nat) : 0 ≤ sumF p f (l.take n) ∧ sumF p f (l.take n) ≤ 400000000000 := sumF_bd_take n hl h

theorem acc_bd9 {s : St} (hB : StB s) (o day : Int) : (0 ≤ s.holds o ∧ s.holds o ≤ 1000000000) ∧ (0 ≤ outS s o day ∧ outS s o day ≤ 400000000000) ∧ (0 ≤ inS s o day ∧ inS s o day ≤ 400000000000) ∧ (0 ≤ pledged s o ∧ pledged s o ≤ 400000000000) := ⟨hB.hb o, hB.outS, hB.inS, hB.pledged⟩

set_option maxHeartbeats 4000000 in
/-- couchant/couchantlaw02.DeedBound. -/
theorem lawBound (rs : List Rw) (vl : Value) (known day : Int) (w : World) (hD : DsR 26 3 w vl rs) :
    Cl Tryz.prog 16 #[vl, .int .i64 known, .int .i64 day] w fun v w' => v = .bool true ∧ Le w w' := by
  refine fn_of_run (args := [_, _, _]) 175 Tryz.func16 rfl rfl rfl fun cs => ?_
  have S := Own.start (X := nob) w
  refine r_seq ?_
  refine r_region ?_
  refine l_x rfl (x_as rfl) ?_
  refine l_nil ?_
  refine r_seq ?_
  refine r_seq ?_
  refine r_region ?_
  refine l_x rfl (x_mv rfl) ?_
  refine l_call [] [] [_] rfl rfl Tryz.call41 rfl (c_valid rs _ _ (hD.le S.le)) ?_
  rintro _ w1 ⟨rfl, hl3⟩
  have S2 := S.step hl3
  refine l_x rfl (x_not rfl) ?_
  refine l_nil ?_
  refine r_if rfl (fun hc16 => ?_) (fun hc16 => ?_)
  · skip
    refine r_seq ?_
    refine r_region ?_
    refine l_call [] [] [] rfl rfl Tryz.call23 rfl (c_enteredX _) ?_
    rintro _ w4 ⟨rfl, hl6⟩
    have S5 := S2.step hl6
    refine l_x rfl (x_as rfl) ?_
    refine l_nil ?_
    refine r_ret (rs := [.tmp 6]) [_] Tryz.func16 rfl ⟨rfl, trivial⟩ ?_
    exact ⟨rfl, S5.le⟩
  · skip
    have hV : fewB (dl rs) = true ∧ rightD (dl rs) = true := by simpa using hc16
    have hR := hV.2
    have hB := on_stb (dl rs) known day
    have hN := on_nn (known := known) (day := day) hR
    refine r_skip ?_
    refine r_seq ?_
    refine r_region ?_
    refine l_x rfl (x_mv rfl) ?_
    refine l_x rfl (x_mv rfl) ?_
    refine l_x rfl (x_mv rfl) ?_
    refine l_call [] [] [_, _, _] rfl rfl Tryz.call68 rfl (c_Leases rs vl known day _ (hD.le S2.le)) ?_
    rintro v217 w7 ⟨hN217, hl217⟩
    have S8 := S2.add hl217 hN217
    refine l_x rfl (x_as rfl) ?_
    refine l_nil ?_
    refine r_seq ?_
    refine r_region ?_
    refine l_x rfl (x_mv rfl) ?_
    refine l_x rfl (x_mv rfl) ?_
    refine l_x rfl (x_mv rfl) ?_
    refine l_call [] [] [_, _, _] rfl rfl Tryz.call71 rfl (c_Pledges rs vl known day _ (hD.le S8.le)) ?_
    rintro v259 w9 ⟨hN259, hl259⟩
    have S10 := S8.add hl259 hN259
    refine l_x rfl (x_as rfl) ?_
    refine l_nil ?_
    refine r_seq ?_
    refine r_seq ?_
    refine r_region ?_
    refine l_x rfl (x_as rfl) ?_
    refine l_nil ?_
    refine r_block ?_
    refine r_loop (G := Nat) (fun k => 40 - k) (fun k => [(0, vl), (1, .int .i64 known), (2, .int .i64 day), (7, v217), (8, v259), (9, .int .i64 ((k : Int) + 1))]) (fun k w' => (k ≤ 40) ∧ Own nob w w' [vec ELZ v217 (leasesD (dl rs) known day), vec EPL v259 (pledgesD (dl rs) known day)]) 0 ⟨rfl, rfl, rfl, rfl, rfl, rfl, trivial⟩ ⟨Nat.zero_le _, (S10.take 2)⟩ ?_
    rintro k ρ w1 ⟨hk, S1⟩ IH
    refine r_seq ?_
    refine r_seq ?_
    refine r_region ?_
    refine l_x rfl (x_mv rfl) ?_
    refine l_x rfl (x_leq rfl rfl) ?_
    refine l_nil ?_
    refine r_ifd rfl (fun hc27 => ?_) (fun hc27 => ?_)
    · skip
      have hbd := acc_bd9 hB ((k : Int) + 1) day
      have hll := ls_len (dl rs) known day
      have hpl := ps_len (dl rs) known day
      have hfr := hN.fr ((k : Int) + 1) day (Int.le_refl _)
      unfold free at hfr
      refine r_skip ?_
      refine r_seq ?_
      refine r_block ?_
      refine r_seq ?_
      refine r_region ?_
      refine l_x rfl (x_mv rfl) ?_
      refine l_x rfl (x_mv rfl) ?_
      refine l_x rfl (x_mv rfl) ?_
      refine l_x rfl (x_mv rfl) ?_
      refine l_call [] [] [_, _, _, _] rfl rfl Tryz.call55 rfl ((c_AccountOf rs vl known day ((k : Int) + 1) _ (hD.le S1.le)).mono (fun v w' h => (show v = .agg (encAc (acc (onD (dl rs) known day) ((k : Int) + 1) day)).toArray ∧ Le _ w' from by rw [accOf, if_pos ⟨own_iff.2 (by omega), hR⟩] at h; exact h))) ?_
      rintro _ w11 ⟨rfl, hl13⟩
      have S12 := S1.step hl13
      refine l_alloc S12 rfl Tryz.zeroValue66 rfl ?_
      intro b17 w14 S15 hl16
      refine l_stores (vs := [_, _, _, _, _]) S15 2 rfl rfl rfl rfl (ones_cons rfl (ones_cons rfl (ones_cons rfl (ones_cons rfl (ones_cons rfl ones_nil))))) Tryz.sizeOf66 (by first | exact Nat.le_refl _ | simp) (splice_all rfl) ?_
      intro w18 S19 hk20
      refine l_nil ?_
      refine r_seq ?_
      refine r_seq ?_
      refine r_region ?_
      refine l_x rfl (x_as rfl) ?_
      refine l_nil ?_
      refine r_block ?_
      refine r_loop (G := Nat) (fun i => (leasesD (dl rs) known day).length - i) (fun i => [(0, vl), (1, .int .i64 known), (2, .int .i64 day), (7, v217), (8, v259), (9, .int .i64 ((k : Int) + 1)), (10, .pointer (some ⟨b17, 0, none⟩)), (11, .int .i64 i)]) (fun i w' => (i ≤ (leasesD (dl rs) known day).length) ∧ Own nob w w' [vec ELZ v217 (leasesD (dl rs) known day), vec EPL v259 (pledgesD (dl rs) known day), blk b17 [i64 ((k : Int) + 1), i64 ((onD (dl rs) known day).holds ((k : Int) + 1) - sumF (fun x : Lz => decide (x.frm = ((k : Int) + 1))) (·.parts) ((leasesD (dl rs) known day).take i)), i64 (pledged (onD (dl rs) known day) ((k : Int) + 1)), i64 (outS (onD (dl rs) known day) ((k : Int) + 1) day - sumF (fun x : Lz => decide (x.frm = ((k : Int) + 1))) (·.parts) ((leasesD (dl rs) known day).take i)), i64 (inS (onD (dl rs) known day) ((k : Int) + 1) day - sumF (fun x : Lz => decide (x.to = ((k : Int) + 1))) (·.parts) ((leasesD (dl rs) known day).take i))] 66]) 0 ⟨rfl, rfl, rfl, rfl, rfl, rfl, rfl, rfl, trivial⟩ ⟨Nat.zero_le _, (own_cells (S19.take 3) (cells5 rfl (Int.sub_zero _).symm rfl (Int.sub_zero _).symm (Int.sub_zero _).symm))⟩ ?_
      rintro i ρ w1b ⟨hi, S1b⟩ IHb
      refine r_seq ?_
      refine r_seq ?_
      refine r_region ?_
      refine l_x rfl (x_mv rfl) ?_
      refine l_x rfl (x_mv rfl) ?_
      refine l_x rfl (x_len (vec_rd (S1b.at 0 rfl)) rfl Tryz.runUnderlying78) ?_
      refine l_x rfl (x_lss rfl rfl) ?_
      refine l_nil ?_
      refine r_ifd rfl (fun hc38 => ?_) (fun hc38 => ?_)
      · skip
        obtain ⟨x, hx⟩ : ∃ x, (leasesD (dl rs) known day)[i]? = some x := ⟨_, List.getElem?_eq_getElem (by omega)⟩
        have hxb := ls_bd (List.mem_of_getElem? hx)
        have hs1 := sumF_bd9 (p := fun x : Lz => decide (x.frm = ((k : Int) + 1))) (f := fun x : Lz => x.parts) hll (fun x hx => ls_bd hx) i
        have hs2 := sumF_bd9 (p := fun x : Lz => decide (x.to = ((k : Int) + 1))) (f := fun x : Lz => x.parts) hll (fun x hx => ls_bd hx) i
        refine r_skip ?_
        refine r_seq ?_
        refine r_block ?_
        refine r_seq ?_
        refine r_seq ?_
        refine r_region ?_
        refine l_x rfl (x_mv rfl) ?_
        refine l_x rfl (x_mv rfl) ?_
        refine l_index ELZ rfl (vec_rd (S1b.at 0 rfl)) rfl rfl Tryz.runUnderlying78 Tryz.sizeOf84 (by omega) hx ?_
        intro b21 o22 hat23 row24
        refine l_x rfl (x_fieldAddr rfl Tryz.runUnderlying84 rfl Tryz.sizeOf3 (by decide)) ?_
        refine l_x rfl (x_load rfl (ld_cell Tryz.isAgg3 (row24 1 _ rfl))) ?_
        refine l_x rfl (x_mv rfl) ?_
        refine l_x rfl (x_eql rfl rfl) ?_
        refine l_nil ?_
        refine r_ifd rfl (fun hc47 => ?_) (fun hc47 => ?_)
        · skip
          have e47 := sumF_take (p := fun x : Lz => decide (x.frm = ((k : Int) + 1))) (f := fun x : Lz => x.parts) hx
          simp only [decide_eq_true_eq] at e47
          rw [if_pos hc47] at e47
          refine r_seq ?_
          refine r_drawR 9 Tryz.mixed (by kernel_rfl) ?_
          refine w_x rfl (fun w1 h1 => x_fieldAddr rfl Tryz.runUnderlying66 rfl Tryz.sizeOf3 (by decide)) ?_
          refine w_x rfl (fun w1 h1 => x_load rfl (ld_blk ((S1b.step h1).blk 2 rfl) Tryz.isAgg3 rfl)) ?_
          refine w_x rfl (fun w1 h1 => x_mv rfl) ?_
          refine w_x rfl (fun w1 h1 => x_mv rfl) ?_
          refine w_index ELZ rfl (vec_rd (S1b.at 0 rfl)) rfl rfl Tryz.runUnderlying78 Tryz.sizeOf84 (by omega) hx ?_
          intro b25 o26 hat27 row28
          refine w_x rfl (fun w1 h1 => x_fieldAddr rfl Tryz.runUnderlying84 rfl Tryz.sizeOf3 (by decide)) ?_
          refine w_x rfl (fun w1 h1 => x_load rfl (ld_cell Tryz.isAgg3 ((row28.le h1) 3 _ rfl))) ?_
          refine w_x rfl (fun w1 h1 => x_sub rfl rfl (by omega)) ?_
          refine w_x rfl (fun w1 h1 => x_fieldAddr rfl Tryz.runUnderlying66 rfl Tryz.sizeOf3 (by decide)) ?_
          refine w_nil ?_
          intro w29 hl30
          have S31 := S1b.step hl30
          refine l_storeq (c' := [_, _, _, _, _]) S31 2 rfl rfl rfl rfl rfl Tryz.sizeOf3 (by first | (simp; done) | exact Nat.le_of_ble_eq_true rfl) rfl ?_
          intro w32 S33 hk34
          refine l_nil ?_
          refine r_drawR 9 Tryz.mixed (by kernel_rfl) ?_
          refine w_x rfl (fun w1 h1 => x_fieldAddr rfl Tryz.runUnderlying66 rfl Tryz.sizeOf3 (by decide)) ?_
          refine w_x rfl (fun w1 h1 => x_load rfl (ld_blk ((S33.step h1).blk 2 rfl) Tryz.isAgg3 rfl)) ?_
          refine w_x rfl (fun w1 h1 => x_mv rfl) ?_
          refine w_x rfl (fun w1 h1 => x_mv rfl) ?_
          refine w_index ELZ rfl (vec_rd (S33.at 0 rfl)) rfl rfl Tryz.runUnderlying78 Tryz.sizeOf84 (by omega) hx ?_
          intro b35 o36 hat37 row38
          refine w_x rfl (fun w1 h1 => x_fieldAddr rfl Tryz.runUnderlying84 rfl Tryz.sizeOf3 (by decide)) ?_
          refine w_x rfl (fun w1 h1 => x_load rfl (ld_cell Tryz.isAgg3 ((row38.le h1) 3 _ rfl))) ?_
          refine w_x rfl (fun w1 h1 => x_sub rfl rfl (by omega)) ?_
          refine w_x rfl (fun w1 h1 => x_fieldAddr rfl Tryz.runUnderlying66 rfl Tryz.sizeOf3 (by decide)) ?_
          refine w_nil ?_
          intro w39 hl40
          have S41 := S33.step hl40
          refine l_storeq (c' := [_, _, _, _, _]) S41 2 rfl rfl rfl rfl rfl Tryz.sizeOf3 (by first | (simp; done) | exact Nat.le_of_ble_eq_true rfl) rfl ?_
          intro w42 S43 hk44
          refine l_nil ?_
          refine r_seq ?_
          refine r_region ?_
          refine l_x rfl (x_mv rfl) ?_
          refine l_x rfl (x_mv rfl) ?_
          refine l_index ELZ rfl (vec_rd (S43.at 0 rfl)) rfl rfl Tryz.runUnderlying78 Tryz.sizeOf84 (by omega) hx ?_
          intro b45 o46 hat47 row48
          refine l_x rfl (x_fieldAddr rfl Tryz.runUnderlying84 rfl Tryz.sizeOf3 (by decide)) ?_
          refine l_x rfl (x_load rfl (ld_cell Tryz.isAgg3 (row48 2 _ rfl))) ?_
          refine l_x rfl (x_mv rfl) ?_
          refine l_x rfl (x_eql rfl rfl) ?_
          refine l_nil ?_
          refine r_ifd rfl (fun hc72 => ?_) (fun hc72 => ?_)
          · skip
            have e72 := sumF_take (p := fun x : Lz => decide (x.to = ((k : Int) + 1))) (f := fun x : Lz => x.parts) hx
            simp only [decide_eq_true_eq] at e72
            rw [if_pos hc72] at e72
            refine r_drawR 9 Tryz.mixed (by kernel_rfl) ?_
            refine w_x rfl (fun w1 h1 => x_fieldAddr rfl Tryz.runUnderlying66 rfl Tryz.sizeOf3 (by decide)) ?_
            refine w_x rfl (fun w1 h1 => x_load rfl (ld_blk ((S43.step h1).blk 2 rfl) Tryz.isAgg3 rfl)) ?_
            refine w_x rfl (fun w1 h1 => x_mv rfl) ?_
            refine w_x rfl (fun w1 h1 => x_mv rfl) ?_
            refine w_index ELZ rfl (vec_rd (S43.at 0 rfl)) rfl rfl Tryz.runUnderlying78 Tryz.sizeOf84 (by omega) hx ?_
            intro b49 o50 hat51 row52
            refine w_x rfl (fun w1 h1 => x_fieldAddr rfl Tryz.runUnderlying84 rfl Tryz.sizeOf3 (by decide)) ?_
            refine w_x rfl (fun w1 h1 => x_load rfl (ld_cell Tryz.isAgg3 ((row52.le h1) 3 _ rfl))) ?_
            refine w_x rfl (fun w1 h1 => x_sub rfl rfl (by omega)) ?_
            refine w_x rfl (fun w1 h1 => x_fieldAddr rfl Tryz.runUnderlying66 rfl Tryz.sizeOf3 (by decide)) ?_
            refine w_nil ?_
            intro w53 hl54
            have S55 := S43.step hl54
            refine l_storeq (c' := [_, _, _, _, _]) S55 2 rfl rfl rfl rfl rfl Tryz.sizeOf3 (by first | (simp; done) | exact Nat.le_of_ble_eq_true rfl) rfl ?_
            intro w56 S57 hk58
            refine l_nil ?_
            refine r_inBlock ?_
            refine r_region ?_
            refine l_x rfl (x_mv rfl) ?_
            refine l_x rfl (x_add rfl rfl (by omega)) ?_
            refine l_x rfl (x_as rfl) ?_
            refine l_nil ?_
            exact IHb (i + 1) _ _ (by omega) ⟨rfl, rfl, rfl, rfl, rfl, rfl, rfl, rfl, trivial⟩ ⟨by omega, (own_cells (S57.take 3) (cells5 rfl (by omega) rfl (by omega) (by omega)))⟩
          · skip
            have e72 := sumF_take (p := fun x : Lz => decide (x.to = ((k : Int) + 1))) (f := fun x : Lz => x.parts) hx
            simp only [decide_eq_true_eq] at e72
            rw [if_neg hc72] at e72
            refine r_skip ?_
            refine r_inBlock ?_
            refine r_region ?_
            refine l_x rfl (x_mv rfl) ?_
            refine l_x rfl (x_add rfl rfl (by omega)) ?_
            refine l_x rfl (x_as rfl) ?_
            refine l_nil ?_
            exact IHb (i + 1) _ _ (by omega) ⟨rfl, rfl, rfl, rfl, rfl, rfl, rfl, rfl, trivial⟩ ⟨by omega, (own_cells (S43.take 3) (cells5 rfl (by omega) rfl (by omega) (by omega)))⟩
        · skip
          have e47 := sumF_take (p := fun x : Lz => decide (x.frm = ((k : Int) + 1))) (f := fun x : Lz => x.parts) hx
          simp only [decide_eq_true_eq] at e47
          rw [if_neg hc47] at e47
          refine r_skip ?_
          refine r_seq ?_
          refine r_region ?_
          refine l_x rfl (x_mv rfl) ?_
          refine l_x rfl (x_mv rfl) ?_
          refine l_index ELZ rfl (vec_rd (S1b.at 0 rfl)) rfl rfl Tryz.runUnderlying78 Tryz.sizeOf84 (by omega) hx ?_
          intro b59 o60 hat61 row62
          refine l_x rfl (x_fieldAddr rfl Tryz.runUnderlying84 rfl Tryz.sizeOf3 (by decide)) ?_
          refine l_x rfl (x_load rfl (ld_cell Tryz.isAgg3 (row62 2 _ rfl))) ?_
          refine l_x rfl (x_mv rfl) ?_
          refine l_x rfl (x_eql rfl rfl) ?_
          refine l_nil ?_
          refine r_ifd rfl (fun hc72 => ?_) (fun hc72 => ?_)
          · skip
            have e72 := sumF_take (p := fun x : Lz => decide (x.to = ((k : Int) + 1))) (f := fun x : Lz => x.parts) hx
            simp only [decide_eq_true_eq] at e72
            rw [if_pos hc72] at e72
            refine r_drawR 9 Tryz.mixed (by kernel_rfl) ?_
            refine w_x rfl (fun w1 h1 => x_fieldAddr rfl Tryz.runUnderlying66 rfl Tryz.sizeOf3 (by decide)) ?_
            refine w_x rfl (fun w1 h1 => x_load rfl (ld_blk ((S1b.step h1).blk 2 rfl) Tryz.isAgg3 rfl)) ?_
            refine w_x rfl (fun w1 h1 => x_mv rfl) ?_
            refine w_x rfl (fun w1 h1 => x_mv rfl) ?_
            refine w_index ELZ rfl (vec_rd (S1b.at 0 rfl)) rfl rfl Tryz.runUnderlying78 Tryz.sizeOf84 (by omega) hx ?_
            intro b63 o64 hat65 row66
            refine w_x rfl (fun w1 h1 => x_fieldAddr rfl Tryz.runUnderlying84 rfl Tryz.sizeOf3 (by decide)) ?_
            refine w_x rfl (fun w1 h1 => x_load rfl (ld_cell Tryz.isAgg3 ((row66.le h1) 3 _ rfl))) ?_
            refine w_x rfl (fun w1 h1 => x_sub rfl rfl (by omega)) ?_
            refine w_x rfl (fun w1 h1 => x_fieldAddr rfl Tryz.runUnderlying66 rfl Tryz.sizeOf3 (by decide)) ?_
            refine w_nil ?_
            intro w67 hl68
            have S69 := S1b.step hl68
            refine l_storeq (c' := [_, _, _, _, _]) S69 2 rfl rfl rfl rfl rfl Tryz.sizeOf3 (by first | (simp; done) | exact Nat.le_of_ble_eq_true rfl) rfl ?_
            intro w70 S71 hk72
            refine l_nil ?_
            refine r_inBlock ?_
            refine r_region ?_
            refine l_x rfl (x_mv rfl) ?_
            refine l_x rfl (x_add rfl rfl (by omega)) ?_
            refine l_x rfl (x_as rfl) ?_
            refine l_nil ?_
            exact IHb (i + 1) _ _ (by omega) ⟨rfl, rfl, rfl, rfl, rfl, rfl, rfl, rfl, trivial⟩ ⟨by omega, (own_cells (S71.take 3) (cells5 rfl (by omega) rfl (by omega) (by omega)))⟩
          · skip
            have e72 := sumF_take (p := fun x : Lz => decide (x.to = ((k : Int) + 1))) (f := fun x : Lz => x.parts) hx
            simp only [decide_eq_true_eq] at e72
            rw [if_neg hc72] at e72
            refine r_skip ?_
            refine r_inBlock ?_
            refine r_region ?_
            refine l_x rfl (x_mv rfl) ?_
            refine l_x rfl (x_add rfl rfl (by omega)) ?_
            refine l_x rfl (x_as rfl) ?_
            refine l_nil ?_
            exact IHb (i + 1) _ _ (by omega) ⟨rfl, rfl, rfl, rfl, rfl, rfl, rfl, rfl, trivial⟩ ⟨by omega, (own_cells (S1b.take 3) (cells5 rfl (by omega) rfl (by omega) (by omega)))⟩
      · skip
        obtain rfl : i = (leasesD (dl rs) known day).length := by omega
        have hf1 := ls_out (l := dl rs) (known := known) (day := day) (o := ((k : Int) + 1))
        have hf2 := ls_inn (l := dl rs) (known := known) (day := day) (o := ((k : Int) + 1))
        rw [List.take_length, hf1, hf2] at S1b
        refine r_exit rfl ?_
        refine r_seq ?_
        refine r_seq ?_
        refine r_region ?_
        refine l_x rfl (x_as rfl) ?_
        refine l_nil ?_
        refine r_block ?_
        refine r_loop (G := Nat) (fun j => (pledgesD (dl rs) known day).length - j) (fun j => [(0, vl), (1, .int .i64 known), (2, .int .i64 day), (7, v217), (8, v259), (9, .int .i64 ((k : Int) + 1)), (10, .pointer (some ⟨b17, 0, none⟩)), (12, .int .i64 j)]) (fun j w' => (j ≤ (pledgesD (dl rs) known day).length) ∧ Own nob w w' [vec ELZ v217 (leasesD (dl rs) known day), vec EPL v259 (pledgesD (dl rs) known day), blk b17 [i64 ((k : Int) + 1), i64 ((onD (dl rs) known day).holds ((k : Int) + 1) - outS (onD (dl rs) known day) ((k : Int) + 1) day - sumF (fun x : Pl => decide (x.frm = ((k : Int) + 1))) (·.parts) ((pledgesD (dl rs) known day).take j)), i64 (pledged (onD (dl rs) known day) ((k : Int) + 1) - sumF (fun x : Pl => decide (x.frm = ((k : Int) + 1))) (·.parts) ((pledgesD (dl rs) known day).take j)), i64 0, i64 0] 66]) 0 ⟨rfl, rfl, rfl, rfl, rfl, rfl, rfl, rfl, trivial⟩ ⟨Nat.zero_le _, (own_cells (S1b.take 3) (cells5 rfl (Int.sub_zero _).symm (Int.sub_zero _).symm (by omega) (by omega)))⟩ ?_
        rintro j ρ w1c ⟨hj, S1c⟩ IHc
        refine r_seq ?_
        refine r_seq ?_
        refine r_region ?_
        refine l_x rfl (x_mv rfl) ?_
        refine l_x rfl (x_mv rfl) ?_
        refine l_x rfl (x_len (vec_rd (S1c.at 1 rfl)) rfl Tryz.runUnderlying81) ?_
        refine l_x rfl (x_lss rfl rfl) ?_
        refine l_nil ?_
        refine r_ifd rfl (fun hc85 => ?_) (fun hc85 => ?_)
        · skip
          obtain ⟨z, hz⟩ : ∃ x, (pledgesD (dl rs) known day)[j]? = some x := ⟨_, List.getElem?_eq_getElem (by omega)⟩
          have hzb := ps_bd (List.mem_of_getElem? hz)
          have hs3 := sumF_bd9 (p := fun x : Pl => decide (x.frm = ((k : Int) + 1))) (f := fun x : Pl => x.parts) hpl (fun x hx => ps_bd hx) j
          refine r_skip ?_
          refine r_seq ?_
          refine r_block ?_
          refine r_seq ?_
          refine r_region ?_
          refine l_x rfl (x_mv rfl) ?_
          refine l_x rfl (x_mv rfl) ?_
          refine l_index EPL rfl (vec_rd (S1c.at 1 rfl)) rfl rfl Tryz.runUnderlying81 Tryz.sizeOf86 (by omega) hz ?_
          intro b73 o74 hat75 row76
          refine l_x rfl (x_fieldAddr rfl Tryz.runUnderlying86 rfl Tryz.sizeOf3 (by decide)) ?_
          refine l_x rfl (x_load rfl (ld_cell Tryz.isAgg3 (row76 1 _ rfl))) ?_
          refine l_x rfl (x_mv rfl) ?_
          refine l_x rfl (x_eql rfl rfl) ?_
          refine l_nil ?_
          refine r_ifd rfl (fun hc94 => ?_) (fun hc94 => ?_)
          · skip
            have e94 := sumF_take (p := fun x : Pl => decide (x.frm = ((k : Int) + 1))) (f := fun x : Pl => x.parts) hz
            simp only [decide_eq_true_eq] at e94
            rw [if_pos hc94] at e94
            refine r_seq ?_
            refine r_drawR 9 Tryz.mixed (by kernel_rfl) ?_
            refine w_x rfl (fun w1 h1 => x_fieldAddr rfl Tryz.runUnderlying66 rfl Tryz.sizeOf3 (by decide)) ?_
            refine w_x rfl (fun w1 h1 => x_load rfl (ld_blk ((S1c.step h1).blk 2 rfl) Tryz.isAgg3 rfl)) ?_
            refine w_x rfl (fun w1 h1 => x_mv rfl) ?_
            refine w_x rfl (fun w1 h1 => x_mv rfl) ?_
            refine w_index EPL rfl (vec_rd (S1c.at 1 rfl)) rfl rfl Tryz.runUnderlying81 Tryz.sizeOf86 (by omega) hz ?_
            intro b77 o78 hat79 row80
            refine w_x rfl (fun w1 h1 => x_fieldAddr rfl Tryz.runUnderlying86 rfl Tryz.sizeOf3 (by decide)) ?_
            refine w_x rfl (fun w1 h1 => x_load rfl (ld_cell Tryz.isAgg3 ((row80.le h1) 3 _ rfl))) ?_
            refine w_x rfl (fun w1 h1 => x_sub rfl rfl (by omega)) ?_
            refine w_x rfl (fun w1 h1 => x_fieldAddr rfl Tryz.runUnderlying66 rfl Tryz.sizeOf3 (by decide)) ?_
            refine w_nil ?_
            intro w81 hl82
            have S83 := S1c.step hl82
            refine l_storeq (c' := [_, _, _, _, _]) S83 2 rfl rfl rfl rfl rfl Tryz.sizeOf3 (by first | (simp; done) | exact Nat.le_of_ble_eq_true rfl) rfl ?_
            intro w84 S85 hk86
            refine l_nil ?_
            refine r_drawR 9 Tryz.mixed (by kernel_rfl) ?_
            refine w_x rfl (fun w1 h1 => x_fieldAddr rfl Tryz.runUnderlying66 rfl Tryz.sizeOf3 (by decide)) ?_
            refine w_x rfl (fun w1 h1 => x_load rfl (ld_blk ((S85.step h1).blk 2 rfl) Tryz.isAgg3 rfl)) ?_
            refine w_x rfl (fun w1 h1 => x_mv rfl) ?_
            refine w_x rfl (fun w1 h1 => x_mv rfl) ?_
            refine w_index EPL rfl (vec_rd (S85.at 1 rfl)) rfl rfl Tryz.runUnderlying81 Tryz.sizeOf86 (by omega) hz ?_
            intro b87 o88 hat89 row90
            refine w_x rfl (fun w1 h1 => x_fieldAddr rfl Tryz.runUnderlying86 rfl Tryz.sizeOf3 (by decide)) ?_
            refine w_x rfl (fun w1 h1 => x_load rfl (ld_cell Tryz.isAgg3 ((row90.le h1) 3 _ rfl))) ?_
            refine w_x rfl (fun w1 h1 => x_sub rfl rfl (by omega)) ?_
            refine w_x rfl (fun w1 h1 => x_fieldAddr rfl Tryz.runUnderlying66 rfl Tryz.sizeOf3 (by decide)) ?_
            refine w_nil ?_
            intro w91 hl92
            have S93 := S85.step hl92
            refine l_storeq (c' := [_, _, _, _, _]) S93 2 rfl rfl rfl rfl rfl Tryz.sizeOf3 (by first | (simp; done) | exact Nat.le_of_ble_eq_true rfl) rfl ?_
            intro w94 S95 hk96
            refine l_nil ?_
            refine r_inBlock ?_
            refine r_region ?_
            refine l_x rfl (x_mv rfl) ?_
            refine l_x rfl (x_add rfl rfl (by omega)) ?_
            refine l_x rfl (x_as rfl) ?_
            refine l_nil ?_
            exact IHc (j + 1) _ _ (by omega) ⟨rfl, rfl, rfl, rfl, rfl, rfl, rfl, rfl, trivial⟩ ⟨by omega, (own_cells (S95.take 3) (cells5 rfl (by omega) (by omega) rfl rfl))⟩
          · skip
            have e94 := sumF_take (p := fun x : Pl => decide (x.frm = ((k : Int) + 1))) (f := fun x : Pl => x.parts) hz
            simp only [decide_eq_true_eq] at e94
            rw [if_neg hc94] at e94
            refine r_skip ?_
            refine r_inBlock ?_
            refine r_region ?_
            refine l_x rfl (x_mv rfl) ?_
            refine l_x rfl (x_add rfl rfl (by omega)) ?_
            refine l_x rfl (x_as rfl) ?_
            refine l_nil ?_
            exact IHc (j + 1) _ _ (by omega) ⟨rfl, rfl, rfl, rfl, rfl, rfl, rfl, rfl, trivial⟩ ⟨by omega, (own_cells (S1c.take 3) (cells5 rfl (by omega) (by omega) rfl rfl))⟩
        · skip
          obtain rfl : j = (pledgesD (dl rs) known day).length := by omega
          have hf3 := ps_pl (l := dl rs) (known := known) (day := day) (o := ((k : Int) + 1))
          rw [List.take_length, hf3] at S1c
          refine r_exit rfl ?_
          refine r_seq ?_
          refine r_region ?_
          refine l_x rfl (x_fieldAddr rfl Tryz.runUnderlying66 rfl Tryz.sizeOf3 (by decide)) ?_
          refine l_x rfl (x_load rfl (ld_blk (S1c.blk 2 rfl) Tryz.isAgg3 rfl)) ?_
          refine l_x rfl (x_neq rfl rfl) ?_
          refine l_x rfl (x_mv rfl) ?_
          refine l_splitd (d := 116) rfl (fun hg116 => ?_) (fun hg116 => ?_)
          · omega
          · skip
            refine l_x rfl (x_fieldAddr rfl Tryz.runUnderlying66 rfl Tryz.sizeOf3 (by decide)) ?_
            refine l_x rfl (x_load rfl (ld_blk (S1c.blk 2 rfl) Tryz.isAgg3 rfl)) ?_
            refine l_x rfl (x_neq rfl rfl) ?_
            refine l_x rfl (x_pick_f rfl rfl) ?_
            refine l_x rfl (x_mv rfl) ?_
            refine l_splitd (d := 121) rfl (fun hg121 => ?_) (fun hg121 => ?_)
            · omega
            · skip
              refine l_x rfl (x_fieldAddr rfl Tryz.runUnderlying66 rfl Tryz.sizeOf3 (by decide)) ?_
              refine l_x rfl (x_load rfl (ld_blk (S1c.blk 2 rfl) Tryz.isAgg3 rfl)) ?_
              refine l_x rfl (x_neq rfl rfl) ?_
              refine l_x rfl (x_pick_f rfl rfl) ?_
              refine l_x rfl (x_mv rfl) ?_
              refine l_splitd (d := 126) rfl (fun hg126 => ?_) (fun hg126 => ?_)
              · omega
              · skip
                refine l_x rfl (x_fieldAddr rfl Tryz.runUnderlying66 rfl Tryz.sizeOf3 (by decide)) ?_
                refine l_x rfl (x_load rfl (ld_blk (S1c.blk 2 rfl) Tryz.isAgg3 rfl)) ?_
                refine l_x rfl (x_lss rfl rfl) ?_
                refine l_x rfl (x_pick_f rfl rfl) ?_
                refine l_nil ?_
                refine r_ifd rfl (fun hc130 => ?_) (fun hc130 => ?_)
                · omega
                · skip
                  refine r_skip ?_
                  refine r_inBlock ?_
                  refine r_region ?_
                  refine l_x rfl (x_mv rfl) ?_
                  refine l_x rfl (x_add rfl rfl (by omega)) ?_
                  refine l_x rfl (x_as rfl) ?_
                  refine l_nil ?_
                  exact IH (k + 1) _ _ (by omega) ⟨rfl, rfl, rfl, rfl, rfl, rfl, trivial⟩ ⟨by omega, (S1c.take 2)⟩
    · skip
      refine r_exit rfl ?_
      refine r_seq ?_
      refine r_seq ?_
      refine r_region ?_
      refine l_x rfl (x_as rfl) ?_
      refine l_nil ?_
      refine r_block ?_
      refine r_loop (G := Nat) (fun i => (leasesD (dl rs) known day).length - i) (fun i => [(0, vl), (1, .int .i64 known), (2, .int .i64 day), (7, v217), (13, .int .i64 i)]) (fun i w' => (i ≤ (leasesD (dl rs) known day).length) ∧ Own nob w w' [vec ELZ v217 (leasesD (dl rs) known day)]) 0 ⟨rfl, rfl, rfl, rfl, rfl, trivial⟩ ⟨Nat.zero_le _, (S1.take 1)⟩ ?_
      rintro i ρ w1d ⟨hi, S1d⟩ IHd
      refine r_seq ?_
      refine r_seq ?_
      refine r_region ?_
      refine l_x rfl (x_mv rfl) ?_
      refine l_x rfl (x_mv rfl) ?_
      refine l_x rfl (x_len (vec_rd (S1d.at 0 rfl)) rfl Tryz.runUnderlying78) ?_
      refine l_x rfl (x_lss rfl rfl) ?_
      refine l_nil ?_
      refine r_ifd rfl (fun hc134 => ?_) (fun hc134 => ?_)
      · skip
        obtain ⟨x, hx⟩ : ∃ x, (leasesD (dl rs) known day)[i]? = some x := ⟨_, List.getElem?_eq_getElem (by omega)⟩
        have hxd := ls_stop (List.mem_of_getElem? hx)
        have hll := ls_len (dl rs) known day
        refine r_skip ?_
        refine r_seq ?_
        refine r_block ?_
        refine r_seq ?_
        refine r_drawE 37 nob Tryz.mixed (by kernel_rfl) ?_
        intro w97 hl98
        have S99 := S1d.step hl98
        refine e_exact 0 _ (by kernel_rfl) rfl rfl (by kernel_rfl) rfl (ex_x rfl (fun w1 h1 => x_mv rfl)) ?_
        refine e_exact 1 _ (by kernel_rfl) rfl rfl (by kernel_rfl) rfl (ex_x rfl (fun w1 h1 => x_mv rfl)) ?_
        refine e_index ELZ 2 (by kernel_rfl) rfl rfl (by kernel_rfl) rfl rfl (vec_rd (S99.at 0 rfl)) rfl rfl Tryz.runUnderlying78 Tryz.sizeOf84 (by omega) hx ?_
        intro b100 o101 hat102
        refine e_exact 3 _ (by kernel_rfl) rfl rfl (by kernel_rfl) rfl (ex_x rfl (fun w1 h1 => x_fieldAddr rfl Tryz.runUnderlying84 rfl Tryz.sizeOf3 (by decide))) ?_
        refine e_exact 4 _ (by kernel_rfl) rfl rfl (by kernel_rfl) rfl (ex_x rfl (fun w1 h1 => x_load rfl (ld_cell Tryz.isAgg3 ((rd_row (vec_rd ((S99.step h1).at 0 rfl)) hat102 hx) 4 _ rfl)))) ?_
        refine e_exact 5 _ (by kernel_rfl) rfl rfl (by kernel_rfl) rfl (ex_x rfl (fun w1 h1 => x_mv rfl)) ?_
        refine e_exact 6 _ (by kernel_rfl) rfl rfl (by kernel_rfl) rfl (ex_x rfl (fun w1 h1 => x_lss rfl rfl)) ?_
        refine e_exact 7 _ (by kernel_rfl) rfl rfl (by kernel_rfl) rfl (ex_x rfl (fun w1 h1 => x_mv rfl)) ?_
        refine e_splitd (d := 144) rfl (fun hg144 => ?_) (fun hg144 => ?_)
        · exact absurd hg144 (by omega)
        · skip
          refine e_exact 8 _ (by kernel_rfl) rfl rfl (by kernel_rfl) rfl (ex_x rfl (fun w1 h1 => x_mv rfl)) ?_
          refine e_exact 9 _ (by kernel_rfl) rfl rfl (by kernel_rfl) rfl (ex_x rfl (fun w1 h1 => x_gtr rfl rfl)) ?_
          refine e_exact 10 _ (by kernel_rfl) rfl rfl (by kernel_rfl) rfl (ex_x rfl (fun w1 h1 => x_mv rfl)) ?_
          refine e_splitd (d := 147) rfl (fun hg147 => ?_) (fun hg147 => ?_)
          · skip
            obtain ⟨x0, hx0⟩ : ∃ x, (leasesD (dl rs) known day)[i - 1]? = some x := ⟨_, List.getElem?_eq_getElem (by omega)⟩
            have hlt := ls_prev hx hx0 (by omega)
            refine e_exact 11 _ (by kernel_rfl) rfl rfl (by kernel_rfl) rfl (ex_x rfl (fun w1 h1 => x_mv rfl)) ?_
            refine e_exact 12 _ (by kernel_rfl) rfl rfl (by kernel_rfl) rfl (ex_x rfl (fun w1 h1 => x_mv rfl)) ?_
            refine e_index ELZ 13 (by kernel_rfl) rfl rfl (by kernel_rfl) rfl rfl (vec_rd (S99.at 0 rfl)) rfl rfl Tryz.runUnderlying78 Tryz.sizeOf84 (by omega) hx ?_
            intro b103 o104 hat105
            refine e_exact 14 _ (by kernel_rfl) rfl rfl (by kernel_rfl) rfl (ex_x rfl (fun w1 h1 => x_fieldAddr rfl Tryz.runUnderlying84 rfl Tryz.sizeOf3 (by decide))) ?_
            refine e_exact 15 _ (by kernel_rfl) rfl rfl (by kernel_rfl) rfl (ex_x rfl (fun w1 h1 => x_load rfl (ld_cell Tryz.isAgg3 ((rd_row (vec_rd ((S99.step h1).at 0 rfl)) hat105 hx) 0 _ rfl)))) ?_
            refine e_exact 16 _ (by kernel_rfl) rfl rfl (by kernel_rfl) rfl (ex_x rfl (fun w1 h1 => x_mv rfl)) ?_
            refine e_exact 17 _ (by kernel_rfl) rfl rfl (by kernel_rfl) rfl (ex_x rfl (fun w1 h1 => x_mv rfl)) ?_
            refine e_exact 18 _ (by kernel_rfl) rfl rfl (by kernel_rfl) rfl (ex_x rfl (fun w1 h1 => x_sub rfl rfl (by omega))) ?_
            refine e_index ELZ 19 (by kernel_rfl) rfl rfl (by kernel_rfl) rfl rfl (vec_rd (S99.at 0 rfl)) rfl rfl Tryz.runUnderlying78 Tryz.sizeOf84 (by omega) (by rw [show ((i : Int) - 1).toNat = i - 1 by omega]; exact hx0) ?_
            intro b106 o107 hat108
            refine e_exact 20 _ (by kernel_rfl) rfl rfl (by kernel_rfl) rfl (ex_x rfl (fun w1 h1 => x_fieldAddr rfl Tryz.runUnderlying84 rfl Tryz.sizeOf3 (by decide))) ?_
            refine e_exact 21 _ (by kernel_rfl) rfl rfl (by kernel_rfl) rfl (ex_x rfl (fun w1 h1 => x_load rfl (ld_cell Tryz.isAgg3 ((rd_row (vec_rd ((S99.step h1).at 0 rfl)) hat108 (by rw [show ((i : Int) - 1).toNat = i - 1 by omega]; exact hx0)) 0 _ rfl)))) ?_
            refine e_exact 22 _ (by kernel_rfl) rfl rfl (by kernel_rfl) rfl (ex_x rfl (fun w1 h1 => x_leq rfl rfl)) ?_
            refine e_exact 23 _ (by kernel_rfl) rfl rfl (by kernel_rfl) rfl (ex_x rfl (fun w1 h1 => x_pick_t rfl rfl)) ?_
            refine e_exact 24 _ (by kernel_rfl) rfl rfl (by kernel_rfl) rfl (ex_x rfl (fun w1 h1 => x_pick_f rfl rfl)) ?_
            refine e_exact 25 _ (by kernel_rfl) rfl rfl (by kernel_rfl) rfl (ex_x rfl (fun w1 h1 => x_mv rfl)) ?_
            refine e_splitd (d := 162) rfl (fun hg162 => ?_) (fun hg162 => ?_)
            · exact absurd hg162 (by omega)
            · skip
              refine e_exact 26 _ (by kernel_rfl) rfl rfl (by kernel_rfl) rfl (ex_x rfl (fun w1 h1 => x_mv rfl)) ?_
              refine e_exact 27 _ (by kernel_rfl) rfl rfl (by kernel_rfl) rfl (ex_x rfl (fun w1 h1 => x_mv rfl)) ?_
              refine e_exact 29 _ (by kernel_rfl) rfl rfl (by kernel_rfl) rfl (ex_x rfl (fun w1 h1 => x_mv rfl)) ?_
              refine e_exact 30 _ (by kernel_rfl) rfl rfl (by kernel_rfl) rfl (ex_x rfl (fun w1 h1 => x_mv rfl)) ?_
              refine e_index ELZ 31 (by kernel_rfl) rfl rfl (by kernel_rfl) rfl rfl (vec_rd (S99.at 0 rfl)) rfl rfl Tryz.runUnderlying78 Tryz.sizeOf84 (by omega) hx ?_
              intro b109 o110 hat111
              refine e_exact 32 _ (by kernel_rfl) rfl rfl (by kernel_rfl) rfl (ex_x rfl (fun w1 h1 => x_fieldAddr rfl Tryz.runUnderlying84 rfl Tryz.sizeOf3 (by decide))) ?_
              refine e_exact 33 _ (by kernel_rfl) rfl rfl (by kernel_rfl) rfl (ex_x rfl (fun w1 h1 => x_load rfl (ld_cell Tryz.isAgg3 ((rd_row (vec_rd ((S99.step h1).at 0 rfl)) hat111 hx) 0 _ rfl)))) ?_
              refine e_next [28] (by kernel_rfl) (by kernel_rfl) ⟨⟨_, _, rfl, rfl, ?_⟩, trivial⟩
              refine s_callf [] [] [_, _] rfl rfl Tryz.call49 rfl ((c_Counting rs vl known _ (hD.le S99.le)).mono ?_)
              rintro v165112 w112 ⟨rq165112, hq165112, hO165112⟩
              have S113 := S99.join hO165112
              refine ⟨.of_le hO165112.le, ?_⟩
              have hqq := hq165112.trans (if_pos hR)
              have hlq : rq165112.length ≤ 400 := by rw [← dl_len, hqq]; exact count_len hR
              refine e_next [34] (by kernel_rfl) (by kernel_rfl) ⟨⟨_, _, rfl, rfl, ?_⟩, trivial⟩
              refine s_callf [] [] [_, _] rfl rfl Tryz.call57 rfl ((c_index _ _ x.deed (by omega) _ (vec_rd (S113.at 1 rfl))).mono ?_)
              rintro _ w114 ⟨rfl, hl116⟩
              have S115 := S113.step hl116
              refine ⟨.of_le hl116, ?_⟩
              refine e_exact 35 _ (by kernel_rfl) rfl rfl (by kernel_rfl) rfl (ex_x rfl (fun w1 h1 => x_lss rfl rfl)) ?_
              refine e_exact 36 _ (by kernel_rfl) rfl rfl (by kernel_rfl) rfl (ex_x rfl (fun w1 h1 => x_pick_f rfl rfl)) ?_
              refine e_done (by kernel_rfl) ?_
              refine l_nil ?_
              refine r_ifd rfl (fun hc173 => ?_) (fun hc173 => ?_)
              · exact absurd (ls_ix hR hqq (List.mem_of_getElem? hx)) (by omega)
              · skip
                refine r_skip ?_
                refine r_inBlock ?_
                refine r_region ?_
                refine l_x rfl (x_mv rfl) ?_
                refine l_x rfl (x_add rfl rfl (by omega)) ?_
                refine l_x rfl (x_as rfl) ?_
                refine l_nil ?_
                exact IHd (i + 1) _ _ (by omega) ⟨rfl, rfl, rfl, rfl, rfl, trivial⟩ ⟨by omega, (S115.take 1)⟩
          · skip
            refine e_exact 11 _ (by kernel_rfl) rfl rfl (by kernel_rfl) rfl (ex_pass rfl) ?_
            refine e_exact 12 _ (by kernel_rfl) rfl rfl (by kernel_rfl) rfl (ex_pass rfl) ?_
            refine e_exact 13 _ (by kernel_rfl) rfl rfl (by kernel_rfl) rfl (ex_pass rfl) ?_
            refine e_exact 14 _ (by kernel_rfl) rfl rfl (by kernel_rfl) rfl (ex_pass rfl) ?_
            refine e_exact 15 _ (by kernel_rfl) rfl rfl (by kernel_rfl) rfl (ex_pass rfl) ?_
            refine e_exact 16 _ (by kernel_rfl) rfl rfl (by kernel_rfl) rfl (ex_pass rfl) ?_
            refine e_exact 17 _ (by kernel_rfl) rfl rfl (by kernel_rfl) rfl (ex_pass rfl) ?_
            refine e_exact 18 _ (by kernel_rfl) rfl rfl (by kernel_rfl) rfl (ex_pass rfl) ?_
            refine e_exact 19 _ (by kernel_rfl) rfl rfl (by kernel_rfl) rfl (ex_pass rfl) ?_
            refine e_exact 20 _ (by kernel_rfl) rfl rfl (by kernel_rfl) rfl (ex_pass rfl) ?_
            refine e_exact 21 _ (by kernel_rfl) rfl rfl (by kernel_rfl) rfl (ex_pass rfl) ?_
            refine e_exact 22 _ (by kernel_rfl) rfl rfl (by kernel_rfl) rfl (ex_pass rfl) ?_
            refine e_exact 23 _ (by kernel_rfl) rfl rfl (by kernel_rfl) rfl (ex_x rfl (fun w1 h1 => x_pick_f rfl rfl)) ?_
            refine e_exact 24 _ (by kernel_rfl) rfl rfl (by kernel_rfl) rfl (ex_x rfl (fun w1 h1 => x_pick_f rfl rfl)) ?_
            refine e_exact 25 _ (by kernel_rfl) rfl rfl (by kernel_rfl) rfl (ex_x rfl (fun w1 h1 => x_mv rfl)) ?_
            refine e_exact 26 _ (by kernel_rfl) rfl rfl (by kernel_rfl) rfl (ex_x rfl (fun w1 h1 => x_mv rfl)) ?_
            refine e_exact 27 _ (by kernel_rfl) rfl rfl (by kernel_rfl) rfl (ex_x rfl (fun w1 h1 => x_mv rfl)) ?_
            refine e_exact 29 _ (by kernel_rfl) rfl rfl (by kernel_rfl) rfl (ex_x rfl (fun w1 h1 => x_mv rfl)) ?_
            refine e_exact 30 _ (by kernel_rfl) rfl rfl (by kernel_rfl) rfl (ex_x rfl (fun w1 h1 => x_mv rfl)) ?_
            refine e_index ELZ 31 (by kernel_rfl) rfl rfl (by kernel_rfl) rfl rfl (vec_rd (S99.at 0 rfl)) rfl rfl Tryz.runUnderlying78 Tryz.sizeOf84 (by omega) hx ?_
            intro b117 o118 hat119
            refine e_exact 32 _ (by kernel_rfl) rfl rfl (by kernel_rfl) rfl (ex_x rfl (fun w1 h1 => x_fieldAddr rfl Tryz.runUnderlying84 rfl Tryz.sizeOf3 (by decide))) ?_
            refine e_exact 33 _ (by kernel_rfl) rfl rfl (by kernel_rfl) rfl (ex_x rfl (fun w1 h1 => x_load rfl (ld_cell Tryz.isAgg3 ((rd_row (vec_rd ((S99.step h1).at 0 rfl)) hat119 hx) 0 _ rfl)))) ?_
            refine e_next [28] (by kernel_rfl) (by kernel_rfl) ⟨⟨_, _, rfl, rfl, ?_⟩, trivial⟩
            refine s_callf [] [] [_, _] rfl rfl Tryz.call49 rfl ((c_Counting rs vl known _ (hD.le S99.le)).mono ?_)
            rintro v165120 w120 ⟨rq165120, hq165120, hO165120⟩
            have S121 := S99.join hO165120
            refine ⟨.of_le hO165120.le, ?_⟩
            have hqq := hq165120.trans (if_pos hR)
            have hlq : rq165120.length ≤ 400 := by rw [← dl_len, hqq]; exact count_len hR
            refine e_next [34] (by kernel_rfl) (by kernel_rfl) ⟨⟨_, _, rfl, rfl, ?_⟩, trivial⟩
            refine s_callf [] [] [_, _] rfl rfl Tryz.call57 rfl ((c_index _ _ x.deed (by omega) _ (vec_rd (S121.at 1 rfl))).mono ?_)
            rintro _ w122 ⟨rfl, hl124⟩
            have S123 := S121.step hl124
            refine ⟨.of_le hl124, ?_⟩
            refine e_exact 35 _ (by kernel_rfl) rfl rfl (by kernel_rfl) rfl (ex_x rfl (fun w1 h1 => x_lss rfl rfl)) ?_
            refine e_exact 36 _ (by kernel_rfl) rfl rfl (by kernel_rfl) rfl (ex_x rfl (fun w1 h1 => x_pick_f rfl rfl)) ?_
            refine e_done (by kernel_rfl) ?_
            refine l_nil ?_
            refine r_ifd rfl (fun hc173 => ?_) (fun hc173 => ?_)
            · exact absurd (ls_ix hR hqq (List.mem_of_getElem? hx)) (by omega)
            · skip
              refine r_skip ?_
              refine r_inBlock ?_
              refine r_region ?_
              refine l_x rfl (x_mv rfl) ?_
              refine l_x rfl (x_add rfl rfl (by omega)) ?_
              refine l_x rfl (x_as rfl) ?_
              refine l_nil ?_
              exact IHd (i + 1) _ _ (by omega) ⟨rfl, rfl, rfl, rfl, rfl, trivial⟩ ⟨by omega, (S123.take 1)⟩
      · skip
        refine r_exit rfl ?_
        refine r_seq ?_
        refine r_region ?_
        refine l_call [] [] [] rfl rfl Tryz.call23 rfl (c_enteredX _) ?_
        rintro _ w125 ⟨rfl, hl127⟩
        have S126 := S1d.step hl127
        refine l_x rfl (x_as rfl) ?_
        refine l_nil ?_
        refine r_ret (rs := [.tmp 6]) [_] Tryz.func16 rfl ⟨rfl, trivial⟩ ?_
        exact ⟨rfl, S126.le⟩

end Go.Proofs
