/- Texts joined for claims: LParts. -/
import Derived.Test.YtdikpjkdbgfoaaaGreatKa6e53d0bdc
/-
  Contracts of functions of the program: each by symbolic execution of its text.
-/
namespace Go.Proofs
open Go Go.Vk Go.Vk.Flow

open Go.Vk.Deed
/-- A table over 0 to n. -/
def fr (n : Nat) (g : Int → Int) : List Int := (List.range (n + 1)).map fun (i : Nat) => g i
theorem fr_zero (n : Nat) : List.replicate (n + 1) 0 = fr n fun _ => 0 := by
  apply List.ext_getElem
  · simp [fr]
  · intro i h1 h2; simp [fr]
theorem fr_len {n : Nat} {g : Int → Int} : (fr n g).length = n + 1 := by simp [fr]
theorem fr_get {n : Nat} {g : Int → Int} {x : Int} (h : 0 ≤ x ∧ x ≤ n) : (fr n g)[x.toNat]? = some (g x) := by
  unfold fr
  rw [List.getElem?_map, List.getElem?_range (by omega), Option.map_some, show ((x.toNat : Nat) : Int) = x by omega]
theorem fr_set {n : Nat} {g : Int → Int} {x v : Int} (h : 0 ≤ x ∧ x ≤ n) : (fr n g).set x.toNat v = fr n fun i => if i = x then v else g i := by
  apply List.ext_getElem?
  intro i
  rw [List.getElem?_set]
  by_cases e : x.toNat = i
  · subst e
    rw [if_pos rfl, if_pos (by rw [fr_len]; omega), fr_get h, if_pos rfl]
  · rw [if_neg e]
    by_cases hi : i ≤ n
    · have h1 := fr_get (n := n) (g := g) (x := (i : Int)) (by omega)
      have h2 := fr_get (n := n) (g := fun i => if i = x then v else g i) (x := (i : Int)) (by omega)
      rw [Int.toNat_natCast] at h1 h2
      rw [h1, h2, if_neg (by omega)]
    · rw [List.getElem?_eq_none (by rw [fr_len]; omega), List.getElem?_eq_none (by rw [fr_len]; omega)]
theorem fr_congr {n : Nat} {g g' : Int → Int} (h : ∀ i : Int, 0 ≤ i → i ≤ n → g i = g' i) : fr n g = fr n g' := by
  unfold fr
  exact List.map_congr_left fun i hi => h i (by omega) (by have := List.mem_range.1 hi; omega)
def srcP (s : St) (k : Nat) (i : Int) : Int := sumI ((owners.take k).map fun o => s.src o i)
def srcG (s : St) (k j : Nat) (i : Int) : Int := srcP s k i + if i ∈ (idsS s ((k : Int) + 1)).take j then s.src ((k : Int) + 1) i else 0
section
variable {s : St} {l : List D} {k j : Nat} {x : Int}
theorem ids_nd9 (s : St) (o : Int) : (idsS s o).Nodup := idsS_asc.imp fun h => by omega
theorem srcG_zero (i : Int) : srcG s k 0 i = srcP s k i := by unfold srcG; simp
theorem srcG_step (hx : (idsS s ((k : Int) + 1))[j]? = some x) (i : Int) : srcG s k (j + 1) i = if i = x then srcG s k j x + s.src ((k : Int) + 1) x else srcG s k j i := by
  have hnd := ids_nd9 s ((k : Int) + 1)
  have hnt : x ∉ (idsS s ((k : Int) + 1)).take j := fun hm => by
    obtain ⟨q, hq⟩ := List.getElem?_of_mem hm
    rw [List.getElem?_take] at hq
    split at hq
    · next hlt =>
      obtain ⟨g1, g2⟩ := List.getElem?_eq_some_iff.1 hq
      obtain ⟨g3, g4⟩ := List.getElem?_eq_some_iff.1 hx
      exact (List.pairwise_iff_getElem.1 hnd) q j g1 g3 hlt (g2.trans g4.symm)
    · cases hq
  unfold srcG
  rw [List.take_add_one, hx]
  simp only [Option.toList, List.mem_append, List.mem_singleton]
  by_cases e : i = x
  · subst e; rw [if_pos (.inr rfl), if_pos rfl, if_neg hnt]; omega
  · rw [if_neg e]; simp [e]
theorem srcG_all {T : Int} (hb : Bal s T) (hk : k < 40) (i : Int) : srcG s k (idsS s ((k : Int) + 1)).length i = srcP s (k + 1) i := by
  unfold srcG srcP
  rw [List.take_length, own_sum_step (f := fun o => s.src o i) hk]
  congr 1
  split
  · rfl
  · next h =>
    have h0 := hb.nn ((k : Int) + 1) i
    by_cases hi : 1 ≤ i ∧ i ≤ 400
    · have : ¬ 0 < s.src ((k : Int) + 1) i := fun g => h (mem_idsS.2 ⟨hi, g⟩)
      omega
    · exact (hb.z ((k : Int) + 1) i fun g => hi g.2).symm
theorem src_sum {T : Int} (hb : Bal s T) (o : Int) : sumI ((idsS s o).map (s.src o)) = s.holds o := by
  rw [idsS, sum_pos_filter fun i _ => hb.nn o i, ← hb.hs]
theorem srcP_all (i : Int) : srcP s 40 i = srcSum s i := by
  unfold srcP srcSum
  rw [List.take_of_length_le (by rw [owners_len]; omega)]
theorem srcP_zero (i : Int) : srcP s 0 i = 0 := rfl
theorem srcP_bd (hB : StB s) (k : Nat) (hk : k ≤ 40) (i : Int) : 0 ≤ srcP s k i ∧ srcP s k i ≤ 40000000000 := by
  have h1 := map_sum_bd (f := fun o => s.src o i) (l := owners) (B := 1000000000) (fun o _ => hB.sb o i) k
  rw [List.length_take, owners_len] at h1
  unfold srcP; omega
theorem srcG_bd (hB : StB s) (k j : Nat) (hk : k ≤ 40) (i : Int) : 0 ≤ srcG s k j i ∧ srcG s k j i ≤ 41000000000 := by
  have h1 := srcP_bd hB k hk i
  have h2 := hB.sb ((k : Int) + 1) i
  unfold srcG; split <;> omega
variable {known day : Int}
theorem src_ent (hR : rightD l = true) (i : Int) : srcSum (onD l known day) i = entOf (playD l known day) i := by rw [on_done hR]; exact play_src _ rfl (play_d hR) i
theorem src_lt (hR : rightD l = true) (hk : k < 40) (hx : 0 < (onD l known day).src ((k : Int) + 1) x) : x ≤ l.length := by
  have hb := (on_sti (known := known) (day := day) hR).bal
  have h1 : 0 < entOf (playD l known day) x := by
    rw [← src_ent hR]
    have := le_sum (l := owners) (f := fun o => (onD l known day).src o x) (fun o _ => hb.nn o x) (mem_owners.2 (show 1 ≤ (k : Int) + 1 ∧ (k : Int) + 1 ≤ 40 by omega))
    unfold srcSum; omega
  refine Decidable.byContradiction fun hn => ?_
  have : entOf (playD l known day) x = 0 := entOf_none fun y hy e => by
    obtain ⟨i, hi⟩ := List.getElem?_of_mem (count_sub (List.mem_filter.1 hy).1)
    have h2 := (right_id hR hi).1
    have h3 := (List.getElem?_eq_some_iff.1 hi).1
    omega
  omega
theorem parts_none {id : Int} (h : ∀ y ∈ counting l known, y.id ≠ id) : entOf (playD l known day) id = 0 := entOf_none fun y hy => h y (List.mem_filter.1 hy).1
theorem parts_one (hR : rightD l = true) {id : Int} {a : D} (ha : a ∈ counting l known) (e : a.id = id) : entOf (playD l known day) id = if a.kind = 1 ∧ a.day ≤ day then a.parts else 0 := by
  have hn := (right_play (known := known) hR).nd
  by_cases hd : a.day ≤ day
  · rw [entOf_one (hn.sublist (List.filter_sublist.map _)) (List.mem_filter.2 ⟨ha, by simpa using hd⟩) e]
    by_cases k : a.kind = 1
    · rw [if_pos k, if_pos ⟨k, hd⟩]
    · rw [if_neg k, if_neg fun g => k g.1]
  · rw [if_neg fun g => hd g.2]
    refine entOf_none fun y hy g => ?_
    obtain ⟨h1, h2⟩ := List.mem_filter.1 hy
    obtain ⟨i, hi⟩ := List.getElem?_of_mem h1
    obtain ⟨q, hq⟩ := List.getElem?_of_mem ha
    have hiq := idAt_inj hn (List.getElem?_eq_some_iff.1 hi).1 (List.getElem?_eq_some_iff.1 hq).1 (by rw [idAt_get hi, idAt_get hq, g, e])
    subst hiq
    rw [hi] at hq; cases hq
    simp at h2; exact hd h2
theorem ix_cases (p : Rw → Bool) (rq : List Rw) : (idx p rq = -1 ∧ ∀ y ∈ rq, p y = false) ∨ ∃ (q : Nat) (a : Rw), idx p rq = q ∧ rq[q]? = some a ∧ p a = true := by
  by_cases h : idx p rq = -1
  · exact .inl ⟨h, idx_neg h⟩
  · obtain ⟨q, a, h1, h2, h3, _⟩ := idx_pos h
    exact .inr ⟨q, a, h1, h2, h3⟩
end

set_option maxHeartbeats 4000000 in
/-- couchant/couchantlaw02.DeedParts. -/
theorem lawParts (rs : List Rw) (vl : Value) (known day : Int) (w : World) (hD : DsR 26 3 w vl rs) :
    Cl Tryz.prog 11 #[vl, .int .i64 known, .int .i64 day] w fun v w' => v = .bool true ∧ Le w w' := by
  refine fn_of_run (args := [_, _, _]) 160 Tryz.func11 rfl rfl rfl fun cs => ?_
  have S := Own.start (X := nob) w
  refine r_seq ?_
  refine r_region ?_
  refine l_x rfl (x_as rfl) ?_
  refine l_nil ?_
  refine r_seq ?_
  refine r_seq ?_
  refine r_region ?_
  refine l_x rfl (x_mv rfl) ?_
  refine l_call [] [] [_] rfl rfl Tryz.call41 rfl (c_valid rs _ _ (hD.le S.le)) ?_
  rintro _ w1 ⟨rfl, hl3⟩
  have S2 := S.step hl3
  refine l_x rfl (x_not rfl) ?_
  refine l_nil ?_
  refine r_if rfl (fun hc19 => ?_) (fun hc19 => ?_)
  · skip
    refine r_seq ?_
    refine r_region ?_
    refine l_call [] [] [] rfl rfl Tryz.call23 rfl (c_enteredX _) ?_
    rintro _ w4 ⟨rfl, hl6⟩
    have S5 := S2.step hl6
    refine l_x rfl (x_as rfl) ?_
    refine l_nil ?_
    refine r_ret (rs := [.tmp 6]) [_] Tryz.func11 rfl ⟨rfl, trivial⟩ ?_
    exact ⟨rfl, S5.le⟩
  · skip
    have hV : fewB (dl rs) = true ∧ rightD (dl rs) = true := by simpa using hc19
    have hR := hV.2
    have hlr := right_len hR
    rw [dl_len] at hlr
    have hI := on_sti (known := known) (day := day) hR
    have hB := on_stb (dl rs) known day
    refine r_skip ?_
    refine r_seq ?_
    refine r_region ?_
    refine l_x rfl (x_mv rfl) ?_
    refine l_x rfl (x_len (hD.rd.le S2.le) rfl Tryz.runUnderlying23) ?_
    refine l_x rfl (x_add rfl rfl (by omega)) ?_
    refine l_make EI 0 S2 rfl Tryz.runUnderlying24 Tryz.sizeOf3 Tryz.typeInfo3 Tryz.zeroValue3 rfl rfl (show _ = Value.int .i64 ((rs.length + 1 : Nat) : Int) from rfl) (show _ = Value.int .i64 ((rs.length + 1 : Nat) : Int) from rfl) (Nat.le_refl _) (by unfold maxLen; omega) (by show _ * 8 ≤ _; omega) ?_
    intro v10 w7 hv11 S8 hl9
    refine l_x rfl (x_as rfl) ?_
    refine l_nil ?_
    refine r_seq ?_
    refine r_seq ?_
    refine r_region ?_
    refine l_x rfl (x_as rfl) ?_
    refine l_nil ?_
    refine r_block ?_
    refine r_loop (G := Nat) (fun k => 40 - k) (fun k => [(0, vl), (1, .int .i64 known), (2, .int .i64 day), (7, v10), (8, .int .i64 ((k : Int) + 1))]) (fun k w' => (k ≤ 40) ∧ Own nob w w' [vec EI v10 (fr rs.length (srcP (onD (dl rs) known day) k))]) 0 ⟨rfl, rfl, rfl, rfl, rfl, trivial⟩ ⟨Nat.zero_le _, (by have hq := S8; rw [fr_zero] at hq; exact hq)⟩ ?_
    rintro k ρ w1 ⟨hk, S1⟩ IH
    refine r_seq ?_
    refine r_seq ?_
    refine r_region ?_
    refine l_x rfl (x_mv rfl) ?_
    refine l_x rfl (x_leq rfl rfl) ?_
    refine l_nil ?_
    refine r_ifd rfl (fun hc26 => ?_) (fun hc26 => ?_)
    · skip
      refine r_skip ?_
      refine r_seq ?_
      refine r_block ?_
      refine r_seq ?_
      refine r_region ?_
      refine l_x rfl (x_mv rfl) ?_
      refine l_x rfl (x_mv rfl) ?_
      refine l_x rfl (x_mv rfl) ?_
      refine l_x rfl (x_mv rfl) ?_
      refine l_call [] [] [_, _, _, _] rfl rfl Tryz.call29 rfl ((c_Source rs vl known day ((k : Int) + 1) _ (hD.le S1.le)).mono (fun v w' h => (show ∃ v1 v2, v = .tuple #[v1, v2] ∧ Own nob _ w' [vec EI v1 (idsS (onD (dl rs) known day) ((k : Int) + 1)), vec EI v2 ((idsS (onD (dl rs) known day) ((k : Int) + 1)).map ((onD (dl rs) known day).src ((k : Int) + 1)))] from h))) ?_
      rintro _ w12 ⟨sv15, sv16, rfl, h14⟩
      have S13 := S1.join h14
      refine l_x rfl (x_mv rfl) ?_
      refine l_x rfl (x_extract rfl rfl) ?_
      refine l_x rfl (x_extract rfl rfl) ?_
      refine l_x rfl (x_as rfl) ?_
      refine l_x rfl (x_as rfl) ?_
      refine l_nil ?_
      refine r_seq ?_
      refine r_seq ?_
      refine r_region ?_
      refine l_x rfl (x_mv rfl) ?_
      refine l_x rfl (x_len (vec_rd (S13.at 1 rfl)) rfl Tryz.runUnderlying24) ?_
      refine l_x rfl (x_mv rfl) ?_
      refine l_x rfl (x_len (vec_rd (S13.at 2 rfl)) rfl Tryz.runUnderlying24) ?_
      refine l_x rfl (x_neq rfl rfl) ?_
      refine l_nil ?_
      refine r_ifd rfl (fun hc41 => ?_) (fun hc41 => ?_)
      · exact absurd (by rw [List.length_map]) hc41
      · skip
        refine r_skip ?_
        refine r_seq ?_
        refine r_region ?_
        refine l_x rfl (x_as rfl) ?_
        refine l_nil ?_
        refine r_seq ?_
        refine r_seq ?_
        refine r_region ?_
        refine l_x rfl (x_as rfl) ?_
        refine l_nil ?_
        refine r_block ?_
        refine r_loop (G := Nat) (fun j => (idsS (onD (dl rs) known day) ((k : Int) + 1)).length - j) (fun j => [(0, vl), (1, .int .i64 known), (2, .int .i64 day), (7, v10), (8, .int .i64 ((k : Int) + 1)), (9, sv15), (10, sv16), (11, .int .i64 (sumI (((idsS (onD (dl rs) known day) ((k : Int) + 1)).take j).map ((onD (dl rs) known day).src ((k : Int) + 1))))), (12, .int .i64 j)]) (fun j w' => (j ≤ (idsS (onD (dl rs) known day) ((k : Int) + 1)).length) ∧ Own nob w w' [vec EI v10 (fr rs.length (srcG (onD (dl rs) known day) k j)), vec EI sv15 (idsS (onD (dl rs) known day) ((k : Int) + 1)), vec EI sv16 ((idsS (onD (dl rs) known day) ((k : Int) + 1)).map ((onD (dl rs) known day).src ((k : Int) + 1)))]) 0 ⟨rfl, rfl, rfl, rfl, rfl, rfl, rfl, rfl, rfl, trivial⟩ ⟨Nat.zero_le _, (by rw [fr_congr (g := srcG _ k 0) fun i _ _ => srcG_zero i]; exact S13.take 3)⟩ ?_
        rintro j ρ w1b ⟨hj, S1b⟩ IHb
        refine r_seq ?_
        refine r_seq ?_
        refine r_region ?_
        refine l_x rfl (x_mv rfl) ?_
        refine l_x rfl (x_mv rfl) ?_
        refine l_x rfl (x_len (vec_rd (S1b.at 1 rfl)) rfl Tryz.runUnderlying24) ?_
        refine l_x rfl (x_lss rfl rfl) ?_
        refine l_nil ?_
        refine r_ifd rfl (fun hc45 => ?_) (fun hc45 => ?_)
        · skip
          have hidl := idsS_len (onD (dl rs) known day) ((k : Int) + 1)
          obtain ⟨x, hx⟩ : ∃ x, (idsS (onD (dl rs) known day) ((k : Int) + 1))[j]? = some x := ⟨_, List.getElem?_eq_getElem (by omega)⟩
          have hxm := mem_idsS.1 (List.mem_of_getElem? hx)
          have hy : ((idsS (onD (dl rs) known day) ((k : Int) + 1)).map ((onD (dl rs) known day).src ((k : Int) + 1)))[j]? = some (((onD (dl rs) known day).src ((k : Int) + 1)) x) := by rw [List.getElem?_map, hx]; rfl
          have hxl := src_lt hR (k := k) (by omega) hxm.2
          rw [dl_len] at hxl
          have hsb := hB.sb ((k : Int) + 1) x
          have hgb := srcG_bd hB k j (by omega) x
          have hms := map_sum_bd (f := ((onD (dl rs) known day).src ((k : Int) + 1))) (l := (idsS (onD (dl rs) known day) ((k : Int) + 1))) (fun i _ => hB.sb ((k : Int) + 1) i) j
          rw [List.length_take] at hms
          have hfg := fr_get (n := rs.length) (g := srcG (onD (dl rs) known day) k j) (x := x) (by omega)
          refine r_skip ?_
          refine r_seq ?_
          refine r_block ?_
          refine r_seq ?_
          refine r_seq ?_
          refine r_drawR 37 Tryz.mixed (by kernel_rfl) ?_
          refine w_x rfl (fun w1 h1 => x_mv rfl) ?_
          refine w_x rfl (fun w1 h1 => x_mv rfl) ?_
          refine w_index EI rfl (vec_rd (S1b.at 1 rfl)) rfl rfl Tryz.runUnderlying24 Tryz.sizeOf3 (by omega) hx ?_
          intro b17 o18 hat19 row20
          refine w_x rfl (fun w1 h1 => x_load rfl (ld_cell Tryz.isAgg3 ((row20.le h1) 0 _ rfl))) ?_
          refine w_x rfl (fun w1 h1 => x_lss rfl rfl) ?_
          refine w_x rfl (fun w1 h1 => x_mv rfl) ?_
          refine w_splitd (d := 53) rfl (fun hg53 => ?_) (fun hg53 => ?_)
          · omega
          · skip
            refine w_x rfl (fun w1 h1 => x_mv rfl) ?_
            refine w_x rfl (fun w1 h1 => x_mv rfl) ?_
            refine w_index EI rfl (vec_rd (S1b.at 1 rfl)) rfl rfl Tryz.runUnderlying24 Tryz.sizeOf3 (by omega) hx ?_
            intro b21 o22 hat23 row24
            refine w_x rfl (fun w1 h1 => x_load rfl (ld_cell Tryz.isAgg3 ((row24.le h1) 0 _ rfl))) ?_
            refine w_x rfl (fun w1 h1 => x_mv rfl) ?_
            refine w_x rfl (fun w1 h1 => x_len (hD.rd.le (S1b.step h1).le) rfl Tryz.runUnderlying23) ?_
            refine w_x rfl (fun w1 h1 => x_gtr rfl rfl) ?_
            refine w_x rfl (fun w1 h1 => x_pick_f rfl rfl) ?_
            refine w_x rfl (fun w1 h1 => x_mv rfl) ?_
            refine w_splitd (d := 62) rfl (fun hg62 => ?_) (fun hg62 => ?_)
            · omega
            · skip
              refine w_x rfl (fun w1 h1 => x_mv rfl) ?_
              refine w_x rfl (fun w1 h1 => x_mv rfl) ?_
              refine w_index EI rfl (vec_rd (S1b.at 2 rfl)) rfl rfl Tryz.runUnderlying24 Tryz.sizeOf3 (by omega) hy ?_
              intro b25 o26 hat27 row28
              refine w_x rfl (fun w1 h1 => x_load rfl (ld_cell Tryz.isAgg3 ((row28.le h1) 0 _ rfl))) ?_
              refine w_x rfl (fun w1 h1 => x_lss rfl rfl) ?_
              refine w_x rfl (fun w1 h1 => x_pick_f rfl rfl) ?_
              refine w_x rfl (fun w1 h1 => x_mv rfl) ?_
              refine w_splitd (d := 69) rfl (fun hg69 => ?_) (fun hg69 => ?_)
              · omega
              · skip
                refine w_x rfl (fun w1 h1 => x_mv rfl) ?_
                refine w_x rfl (fun w1 h1 => x_gtr rfl rfl) ?_
                refine w_x rfl (fun w1 h1 => x_mv rfl) ?_
                refine w_splitd (d := 72) rfl (fun hg72 => ?_) (fun hg72 => ?_)
                · skip
                  obtain ⟨x0, hx0⟩ : ∃ x, (idsS (onD (dl rs) known day) ((k : Int) + 1))[j - 1]? = some x := ⟨_, List.getElem?_eq_getElem (by omega)⟩
                  have hlt : x0 < x := by
                    obtain ⟨g1, g2⟩ := List.getElem?_eq_some_iff.1 hx0
                    obtain ⟨g3, g4⟩ := List.getElem?_eq_some_iff.1 hx
                    have := (List.pairwise_iff_getElem.1 (idsS_asc (s := (onD (dl rs) known day)) (o := (k : Int) + 1))) (j - 1) j g1 g3 (by omega)
                    rw [g2, g4] at this; exact this
                  refine w_x rfl (fun w1 h1 => x_mv rfl) ?_
                  refine w_x rfl (fun w1 h1 => x_mv rfl) ?_
                  refine w_index EI rfl (vec_rd (S1b.at 1 rfl)) rfl rfl Tryz.runUnderlying24 Tryz.sizeOf3 (by omega) hx ?_
                  intro b29 o30 hat31 row32
                  refine w_x rfl (fun w1 h1 => x_load rfl (ld_cell Tryz.isAgg3 ((row32.le h1) 0 _ rfl))) ?_
                  refine w_x rfl (fun w1 h1 => x_mv rfl) ?_
                  refine w_x rfl (fun w1 h1 => x_mv rfl) ?_
                  refine w_x rfl (fun w1 h1 => x_sub rfl rfl (by omega)) ?_
                  refine w_index EI rfl (vec_rd (S1b.at 1 rfl)) rfl rfl Tryz.runUnderlying24 Tryz.sizeOf3 (by omega) (by rw [show ((j : Int) - 1).toNat = j - 1 by omega]; exact hx0) ?_
                  intro b33 o34 hat35 row36
                  refine w_x rfl (fun w1 h1 => x_load rfl (ld_cell Tryz.isAgg3 ((row36.le h1) 0 _ rfl))) ?_
                  refine w_x rfl (fun w1 h1 => x_leq rfl rfl) ?_
                  refine w_x rfl (fun w1 h1 => x_pick_t rfl rfl) ?_
                  refine w_x rfl (fun w1 h1 => x_pick_f rfl rfl) ?_
                  refine w_nil ?_
                  intro w37 hl38
                  have S39 := S1b.step hl38
                  refine l_nil ?_
                  refine r_ifd rfl (fun hc84 => ?_) (fun hc84 => ?_)
                  · omega
                  · skip
                    refine r_skip ?_
                    refine r_seq ?_
                    refine r_region ?_
                    refine l_x rfl (x_mv rfl) ?_
                    refine l_x rfl (x_mv rfl) ?_
                    refine l_x rfl (x_mv rfl) ?_
                    refine l_index EI rfl (vec_rd (S39.at 2 rfl)) rfl rfl Tryz.runUnderlying24 Tryz.sizeOf3 (by omega) hy ?_
                    intro b40 o41 hat42 row43
                    refine l_x rfl (x_load rfl (ld_cell Tryz.isAgg3 (row43 0 _ rfl))) ?_
                    refine l_x rfl (x_add rfl rfl (by omega)) ?_
                    refine l_x rfl (x_as rfl) ?_
                    refine l_nil ?_
                    refine r_drawR 18 Tryz.mixed (by kernel_rfl) ?_
                    refine w_x rfl (fun w1 h1 => x_mv rfl) ?_
                    refine w_x rfl (fun w1 h1 => x_mv rfl) ?_
                    refine w_x rfl (fun w1 h1 => x_mv rfl) ?_
                    refine w_index EI rfl (vec_rd (S39.at 1 rfl)) rfl rfl Tryz.runUnderlying24 Tryz.sizeOf3 (by omega) hx ?_
                    intro b44 o45 hat46 row47
                    refine w_x rfl (fun w1 h1 => x_load rfl (ld_cell Tryz.isAgg3 ((row47.le h1) 0 _ rfl))) ?_
                    refine w_x rfl (fun w1 h1 => x_mv rfl) ?_
                    refine w_x rfl (fun w1 h1 => x_mv rfl) ?_
                    refine w_x rfl (fun w1 h1 => x_mv rfl) ?_
                    refine w_index EI rfl (vec_rd (S39.at 1 rfl)) rfl rfl Tryz.runUnderlying24 Tryz.sizeOf3 (by omega) hx ?_
                    intro b48 o49 hat50 row51
                    refine w_x rfl (fun w1 h1 => x_load rfl (ld_cell Tryz.isAgg3 ((row51.le h1) 0 _ rfl))) ?_
                    refine w_index EI rfl (vec_rd (S39.at 0 rfl)) rfl rfl Tryz.runUnderlying24 Tryz.sizeOf3 (by omega) hfg ?_
                    intro b52 o53 hat54 row55
                    refine w_x rfl (fun w1 h1 => x_load rfl (ld_cell Tryz.isAgg3 ((row55.le h1) 0 _ rfl))) ?_
                    refine w_x rfl (fun w1 h1 => x_mv rfl) ?_
                    refine w_x rfl (fun w1 h1 => x_mv rfl) ?_
                    refine w_index EI rfl (vec_rd (S39.at 2 rfl)) rfl rfl Tryz.runUnderlying24 Tryz.sizeOf3 (by omega) hy ?_
                    intro b56 o57 hat58 row59
                    refine w_x rfl (fun w1 h1 => x_load rfl (ld_cell Tryz.isAgg3 ((row59.le h1) 0 _ rfl))) ?_
                    refine w_x rfl (fun w1 h1 => x_add rfl rfl (by omega)) ?_
                    refine w_index EI rfl (vec_rd (S39.at 0 rfl)) rfl rfl Tryz.runUnderlying24 Tryz.sizeOf3 (by omega) hfg ?_
                    intro b60 o61 hat62 row63
                    refine w_nil ?_
                    intro w64 hl65
                    have S66 := S39.step hl65
                    refine l_storevi (f := 0) S66 0 rfl rfl hat62 rfl rfl Tryz.sizeOf3 hfg (by decide) rfl ?_
                    intro w67 S68 hk69
                    refine l_nil ?_
                    refine r_inBlock ?_
                    refine r_region ?_
                    refine l_x rfl (x_mv rfl) ?_
                    refine l_x rfl (x_add rfl rfl (by omega)) ?_
                    refine l_x rfl (x_as rfl) ?_
                    refine l_nil ?_
                    exact IHb (j + 1) _ _ (by omega) ⟨rfl, rfl, rfl, rfl, rfl, rfl, rfl, (congrArg (Value.int .i64) (map_sum_step hx).symm), rfl, trivial⟩ ⟨by omega, (by have hq := S68.take 3; rw [fr_set (by omega), ← fr_congr (g := srcG (onD (dl rs) known day) k (j + 1)) fun i _ _ => srcG_step hx i] at hq; exact hq)⟩
                · skip
                  refine w_pass rfl ?_
                  refine w_pass rfl ?_
                  refine w_pass rfl ?_
                  refine w_pass rfl ?_
                  refine w_pass rfl ?_
                  refine w_pass rfl ?_
                  refine w_pass rfl ?_
                  refine w_pass rfl ?_
                  refine w_pass rfl ?_
                  refine w_pass rfl ?_
                  refine w_x rfl (fun w1 h1 => x_pick_f rfl rfl) ?_
                  refine w_x rfl (fun w1 h1 => x_pick_f rfl rfl) ?_
                  refine w_nil ?_
                  intro w70 hl71
                  have S72 := S1b.step hl71
                  refine l_nil ?_
                  refine r_false rfl ?_
                  refine r_skip ?_
                  refine r_seq ?_
                  refine r_region ?_
                  refine l_x rfl (x_mv rfl) ?_
                  refine l_x rfl (x_mv rfl) ?_
                  refine l_x rfl (x_mv rfl) ?_
                  refine l_index EI rfl (vec_rd (S72.at 2 rfl)) rfl rfl Tryz.runUnderlying24 Tryz.sizeOf3 (by omega) hy ?_
                  intro b73 o74 hat75 row76
                  refine l_x rfl (x_load rfl (ld_cell Tryz.isAgg3 (row76 0 _ rfl))) ?_
                  refine l_x rfl (x_add rfl rfl (by omega)) ?_
                  refine l_x rfl (x_as rfl) ?_
                  refine l_nil ?_
                  refine r_drawR 18 Tryz.mixed (by kernel_rfl) ?_
                  refine w_x rfl (fun w1 h1 => x_mv rfl) ?_
                  refine w_x rfl (fun w1 h1 => x_mv rfl) ?_
                  refine w_x rfl (fun w1 h1 => x_mv rfl) ?_
                  refine w_index EI rfl (vec_rd (S72.at 1 rfl)) rfl rfl Tryz.runUnderlying24 Tryz.sizeOf3 (by omega) hx ?_
                  intro b77 o78 hat79 row80
                  refine w_x rfl (fun w1 h1 => x_load rfl (ld_cell Tryz.isAgg3 ((row80.le h1) 0 _ rfl))) ?_
                  refine w_x rfl (fun w1 h1 => x_mv rfl) ?_
                  refine w_x rfl (fun w1 h1 => x_mv rfl) ?_
                  refine w_x rfl (fun w1 h1 => x_mv rfl) ?_
                  refine w_index EI rfl (vec_rd (S72.at 1 rfl)) rfl rfl Tryz.runUnderlying24 Tryz.sizeOf3 (by omega) hx ?_
                  intro b81 o82 hat83 row84
                  refine w_x rfl (fun w1 h1 => x_load rfl (ld_cell Tryz.isAgg3 ((row84.le h1) 0 _ rfl))) ?_
                  refine w_index EI rfl (vec_rd (S72.at 0 rfl)) rfl rfl Tryz.runUnderlying24 Tryz.sizeOf3 (by omega) hfg ?_
                  intro b85 o86 hat87 row88
                  refine w_x rfl (fun w1 h1 => x_load rfl (ld_cell Tryz.isAgg3 ((row88.le h1) 0 _ rfl))) ?_
                  refine w_x rfl (fun w1 h1 => x_mv rfl) ?_
                  refine w_x rfl (fun w1 h1 => x_mv rfl) ?_
                  refine w_index EI rfl (vec_rd (S72.at 2 rfl)) rfl rfl Tryz.runUnderlying24 Tryz.sizeOf3 (by omega) hy ?_
                  intro b89 o90 hat91 row92
                  refine w_x rfl (fun w1 h1 => x_load rfl (ld_cell Tryz.isAgg3 ((row92.le h1) 0 _ rfl))) ?_
                  refine w_x rfl (fun w1 h1 => x_add rfl rfl (by omega)) ?_
                  refine w_index EI rfl (vec_rd (S72.at 0 rfl)) rfl rfl Tryz.runUnderlying24 Tryz.sizeOf3 (by omega) hfg ?_
                  intro b93 o94 hat95 row96
                  refine w_nil ?_
                  intro w97 hl98
                  have S99 := S72.step hl98
                  refine l_storevi (f := 0) S99 0 rfl rfl hat95 rfl rfl Tryz.sizeOf3 hfg (by decide) rfl ?_
                  intro w100 S101 hk102
                  refine l_nil ?_
                  refine r_inBlock ?_
                  refine r_region ?_
                  refine l_x rfl (x_mv rfl) ?_
                  refine l_x rfl (x_add rfl rfl (by omega)) ?_
                  refine l_x rfl (x_as rfl) ?_
                  refine l_nil ?_
                  exact IHb (j + 1) _ _ (by omega) ⟨rfl, rfl, rfl, rfl, rfl, rfl, rfl, (congrArg (Value.int .i64) (map_sum_step hx).symm), rfl, trivial⟩ ⟨by omega, (by have hq := S101.take 3; rw [fr_set (by omega), ← fr_congr (g := srcG (onD (dl rs) known day) k (j + 1)) fun i _ _ => srcG_step hx i] at hq; exact hq)⟩
        · skip
          obtain rfl : j = (idsS (onD (dl rs) known day) ((k : Int) + 1)).length := by omega
          refine r_exit rfl ?_
          refine r_seq ?_
          refine r_region ?_
          refine l_x rfl (x_mv rfl) ?_
          refine l_x rfl (x_mv rfl) ?_
          refine l_x rfl (x_mv rfl) ?_
          refine l_x rfl (x_mv rfl) ?_
          refine l_x rfl (x_mv rfl) ?_
          refine l_call [] [] [_, _, _, _] rfl rfl Tryz.call55 rfl ((c_AccountOf rs vl known day ((k : Int) + 1) _ (hD.le S1b.le)).mono (fun v w' h => (by rw [accOf, if_pos ⟨own_iff.2 (by omega), hR⟩] at h; exact h : v = .agg (encAc (acc (onD (dl rs) known day) ((k : Int) + 1) day)).toArray ∧ Le _ w'))) ?_
          rintro _ w103 ⟨rfl, hl105⟩
          have S104 := S1b.step hl105
          refine l_x rfl (x_fieldv rfl Tryz.runUnderlying66 rfl Tryz.isAgg3 rfl) ?_
          refine l_x rfl (x_neq rfl rfl) ?_
          refine l_nil ?_
          refine r_ifd rfl (fun hc116 => ?_) (fun hc116 => ?_)
          · exact absurd (show sumI (((idsS (onD (dl rs) known day) ((k : Int) + 1)).take (idsS (onD (dl rs) known day) ((k : Int) + 1)).length).map ((onD (dl rs) known day).src ((k : Int) + 1))) = (acc (onD (dl rs) known day) ((k : Int) + 1) day).holds by rw [List.take_length]; exact src_sum hI.bal _) hc116
          · skip
            refine r_skip ?_
            refine r_inBlock ?_
            refine r_region ?_
            refine l_x rfl (x_mv rfl) ?_
            refine l_x rfl (x_add rfl rfl (by omega)) ?_
            refine l_x rfl (x_as rfl) ?_
            refine l_nil ?_
            exact IH (k + 1) _ _ (by omega) ⟨rfl, rfl, rfl, rfl, rfl, trivial⟩ ⟨by omega, (by have hq := S104.take 1; rw [fr_congr fun i _ _ => srcG_all hI.bal (by omega) i] at hq; exact hq)⟩
    · skip
      obtain rfl : k = 40 := by omega
      refine r_exit rfl ?_
      refine r_seq ?_
      refine r_region ?_
      refine l_x rfl (x_mv rfl) ?_
      refine l_x rfl (x_mv rfl) ?_
      refine l_call [] [] [_, _] rfl rfl Tryz.call49 rfl (c_Counting rs vl known _ (hD.le S1.le)) ?_
      rintro v119106 w106 ⟨rq119106, hq119106, hO119106⟩
      have S107 := S1.join hO119106
      have hqq := hq119106
      rw [if_pos hR] at hqq
      have hlq : rq119106.length ≤ 400 := by rw [← dl_len, hqq]; exact count_len hR
      obtain ⟨rq, hrqe⟩ : ∃ q, q = rq119106 := ⟨_, rfl⟩
      subst hrqe
      have hfq : ∀ x ∈ dl rq, formed x = true := fun x hx => by rw [hqq] at hx; exact right_formed hR (count_sub hx)
      refine l_x rfl (x_as rfl) ?_
      refine l_nil ?_
      refine r_seq ?_
      refine r_seq ?_
      refine r_region ?_
      refine l_x rfl (x_as rfl) ?_
      refine l_nil ?_
      refine r_block ?_
      refine r_loop (G := Nat) (fun i => rs.length - i) (fun i => [(0, vl), (2, .int .i64 day), (7, v10), (13, v119106), (14, .int .i64 ((i : Int) + 1))]) (fun i w' => (i ≤ rs.length) ∧ Own nob w w' [vec EI v10 (fr rs.length (srcP (onD (dl rs) known day) 40)), vec ED v119106 rq]) 0 ⟨rfl, rfl, rfl, rfl, rfl, trivial⟩ ⟨Nat.zero_le _, (S107.take 2)⟩ ?_
      rintro i ρ w1c ⟨hi, S1c⟩ IHc
      refine r_seq ?_
      refine r_seq ?_
      refine r_region ?_
      refine l_x rfl (x_mv rfl) ?_
      refine l_x rfl (x_mv rfl) ?_
      refine l_x rfl (x_len (hD.rd.le S1c.le) rfl Tryz.runUnderlying23) ?_
      refine l_x rfl (x_leq rfl rfl) ?_
      refine l_nil ?_
      refine r_ifd rfl (fun hc123 => ?_) (fun hc123 => ?_)
      · skip
        refine r_skip ?_
        refine r_seq ?_
        refine r_block ?_
        refine r_seq ?_
        refine r_region ?_
        refine l_x rfl (x_as rfl) ?_
        refine l_nil ?_
        refine r_seq ?_
        refine r_region ?_
        refine l_x rfl (x_mv rfl) ?_
        refine l_x rfl (x_mv rfl) ?_
        refine l_call [] [] [_, _] rfl rfl Tryz.call57 rfl (c_index rq _ ((i : Int) + 1) (by omega) _ (vec_rd (S1c.at 1 rfl))) ?_
        rintro _ w108 ⟨rfl, hl110⟩
        have S109 := S1c.step hl110
        refine l_x rfl (x_as rfl) ?_
        refine l_nil ?_
        refine r_seq ?_
        refine r_seq ?_
        rcases ix_cases (fun a : Rw => decide (a.1.id = (i : Int) + 1)) rq with ⟨hn, hno⟩ | ⟨q, a, hq, ha, hap⟩
        · skip
          refine r_slot 16 (.int .i64 (-1)) (congrArg (Value.int .i64) hn) ?_
          refine r_region ?_
          refine l_x rfl (x_mv rfl) ?_
          refine l_x rfl (x_geq rfl rfl) ?_
          refine l_x rfl (x_mv rfl) ?_
          refine l_splitd (d := 131) rfl (fun hg131 => ?_) (fun hg131 => ?_)
          · omega
          · skip
            refine l_pass rfl ?_
            refine l_pass rfl ?_
            refine l_pass rfl ?_
            refine l_pass rfl ?_
            refine l_pass rfl ?_
            refine l_pass rfl ?_
            refine l_x rfl (x_pick_f rfl rfl) ?_
            refine l_x rfl (x_mv rfl) ?_
            refine l_pass rfl ?_
            refine l_pass rfl ?_
            refine l_pass rfl ?_
            refine l_pass rfl ?_
            refine l_pass rfl ?_
            refine l_pass rfl ?_
            refine l_pass rfl ?_
            refine l_x rfl (x_pick_f rfl rfl) ?_
            refine l_nil ?_
            refine r_false rfl ?_
            refine r_skip ?_
            refine r_seq ?_
            refine r_region ?_
            refine l_x rfl (x_mv rfl) ?_
            refine l_x rfl (x_mv rfl) ?_
            refine l_index EI rfl (vec_rd (S109.at 0 rfl)) rfl rfl Tryz.runUnderlying24 Tryz.sizeOf3 (by omega) (fr_get (by omega)) ?_
            intro b111 o112 hat113 row114
            refine l_x rfl (x_load rfl (ld_cell Tryz.isAgg3 (row114 0 _ rfl))) ?_
            refine l_x rfl (x_mv rfl) ?_
            refine l_x rfl (x_neq rfl rfl) ?_
            refine l_nil ?_
            refine r_ifd rfl (fun hc158 => ?_) (fun hc158 => ?_)
            · exact absurd (by rw [srcP_all, src_ent hR]; exact parts_none fun y hy => by rw [← hqq] at hy; obtain ⟨b, hb, rfl⟩ := List.mem_map.1 hy; have := hno b hb; simpa using this) hc158
            · skip
              refine r_skip ?_
              refine r_inBlock ?_
              refine r_region ?_
              refine l_x rfl (x_mv rfl) ?_
              refine l_x rfl (x_add rfl rfl (by omega)) ?_
              refine l_x rfl (x_as rfl) ?_
              refine l_nil ?_
              exact IHc (i + 1) _ _ (by omega) ⟨rfl, rfl, rfl, rfl, rfl, trivial⟩ ⟨by omega, (S109.take 2)⟩
        · skip
          refine r_slot 16 (.int .i64 (q : Int)) (congrArg (Value.int .i64) hq) ?_
          refine r_region ?_
          refine l_x rfl (x_mv rfl) ?_
          refine l_x rfl (x_geq rfl rfl) ?_
          refine l_x rfl (x_mv rfl) ?_
          refine l_splitd (d := 131) rfl (fun hg131 => ?_) (fun hg131 => ?_)
          · skip
            refine l_x rfl (x_mv rfl) ?_
            refine l_x rfl (x_mv rfl) ?_
            refine l_index ED rfl (vec_rd (S109.at 1 rfl)) rfl rfl Tryz.runUnderlying23 Tryz.sizeOf26 (by omega) ha ?_
            intro b115 o116 hat117 row118
            refine l_x rfl (x_fieldAddr rfl Tryz.runUnderlying26 rfl Tryz.sizeOf5 (by decide)) ?_
            refine l_x rfl (x_load rfl (ld_cell Tryz.isAgg5 (row118 3 _ rfl))) ?_
            refine l_x rfl (x_eql rfl rfl) ?_
            refine l_x rfl (x_pick_t rfl rfl) ?_
            refine l_x rfl (x_mv rfl) ?_
            refine l_splitd (d := 139) rfl (fun hg139 => ?_) (fun hg139 => ?_)
            · skip
              refine l_x rfl (x_mv rfl) ?_
              refine l_x rfl (x_mv rfl) ?_
              refine l_index ED rfl (vec_rd (S109.at 1 rfl)) rfl rfl Tryz.runUnderlying23 Tryz.sizeOf26 (by omega) ha ?_
              intro b119 o120 hat121 row122
              refine l_x rfl (x_fieldAddr rfl Tryz.runUnderlying26 rfl Tryz.sizeOf3 (by decide)) ?_
              refine l_x rfl (x_load rfl (ld_cell Tryz.isAgg3 (row122 1 _ rfl))) ?_
              refine l_x rfl (x_mv rfl) ?_
              refine l_x rfl (x_leq rfl rfl) ?_
              refine l_x rfl (x_pick_t rfl rfl) ?_
              refine l_nil ?_
              refine r_ifd rfl (fun hc147 => ?_) (fun hc147 => ?_)
              · skip
                refine r_region ?_
                refine l_x rfl (x_mv rfl) ?_
                refine l_x rfl (x_mv rfl) ?_
                refine l_index ED rfl (vec_rd (S109.at 1 rfl)) rfl rfl Tryz.runUnderlying23 Tryz.sizeOf26 (by omega) ha ?_
                intro b123 o124 hat125 row126
                refine l_x rfl (x_fieldAddr rfl Tryz.runUnderlying26 rfl Tryz.sizeOf3 (by decide)) ?_
                refine l_x rfl (x_load rfl (ld_cell Tryz.isAgg3 (row126 6 _ rfl))) ?_
                refine l_x rfl (x_as rfl) ?_
                refine l_nil ?_
                refine r_seq ?_
                refine r_region ?_
                refine l_x rfl (x_mv rfl) ?_
                refine l_x rfl (x_mv rfl) ?_
                refine l_index EI rfl (vec_rd (S109.at 0 rfl)) rfl rfl Tryz.runUnderlying24 Tryz.sizeOf3 (by omega) (fr_get (by omega)) ?_
                intro b127 o128 hat129 row130
                refine l_x rfl (x_load rfl (ld_cell Tryz.isAgg3 (row130 0 _ rfl))) ?_
                refine l_x rfl (x_mv rfl) ?_
                refine l_x rfl (x_neq rfl rfl) ?_
                refine l_nil ?_
                refine r_ifd rfl (fun hc158 => ?_) (fun hc158 => ?_)
                · exact absurd (by rw [srcP_all, src_ent hR]; rw [parts_one hR (a := a.1) (by rw [← hqq]; exact mem_dl (List.mem_of_getElem? ha)) (by simpa using hap)]; exact if_pos (by omega)) hc158
                · skip
                  refine r_skip ?_
                  refine r_inBlock ?_
                  refine r_region ?_
                  refine l_x rfl (x_mv rfl) ?_
                  refine l_x rfl (x_add rfl rfl (by omega)) ?_
                  refine l_x rfl (x_as rfl) ?_
                  refine l_nil ?_
                  exact IHc (i + 1) _ _ (by omega) ⟨rfl, rfl, rfl, rfl, rfl, trivial⟩ ⟨by omega, (S109.take 2)⟩
              · skip
                refine r_skip ?_
                refine r_seq ?_
                refine r_region ?_
                refine l_x rfl (x_mv rfl) ?_
                refine l_x rfl (x_mv rfl) ?_
                refine l_index EI rfl (vec_rd (S109.at 0 rfl)) rfl rfl Tryz.runUnderlying24 Tryz.sizeOf3 (by omega) (fr_get (by omega)) ?_
                intro b131 o132 hat133 row134
                refine l_x rfl (x_load rfl (ld_cell Tryz.isAgg3 (row134 0 _ rfl))) ?_
                refine l_x rfl (x_mv rfl) ?_
                refine l_x rfl (x_neq rfl rfl) ?_
                refine l_nil ?_
                refine r_ifd rfl (fun hc158 => ?_) (fun hc158 => ?_)
                · exact absurd (by rw [srcP_all, src_ent hR]; rw [parts_one hR (a := a.1) (by rw [← hqq]; exact mem_dl (List.mem_of_getElem? ha)) (by simpa using hap)]; exact if_neg (by omega)) hc158
                · skip
                  refine r_skip ?_
                  refine r_inBlock ?_
                  refine r_region ?_
                  refine l_x rfl (x_mv rfl) ?_
                  refine l_x rfl (x_add rfl rfl (by omega)) ?_
                  refine l_x rfl (x_as rfl) ?_
                  refine l_nil ?_
                  exact IHc (i + 1) _ _ (by omega) ⟨rfl, rfl, rfl, rfl, rfl, trivial⟩ ⟨by omega, (S109.take 2)⟩
            · skip
              refine l_pass rfl ?_
              refine l_pass rfl ?_
              refine l_pass rfl ?_
              refine l_pass rfl ?_
              refine l_pass rfl ?_
              refine l_pass rfl ?_
              refine l_pass rfl ?_
              refine l_x rfl (x_pick_f rfl rfl) ?_
              refine l_nil ?_
              refine r_false rfl ?_
              refine r_skip ?_
              refine r_seq ?_
              refine r_region ?_
              refine l_x rfl (x_mv rfl) ?_
              refine l_x rfl (x_mv rfl) ?_
              refine l_index EI rfl (vec_rd (S109.at 0 rfl)) rfl rfl Tryz.runUnderlying24 Tryz.sizeOf3 (by omega) (fr_get (by omega)) ?_
              intro b135 o136 hat137 row138
              refine l_x rfl (x_load rfl (ld_cell Tryz.isAgg3 (row138 0 _ rfl))) ?_
              refine l_x rfl (x_mv rfl) ?_
              refine l_x rfl (x_neq rfl rfl) ?_
              refine l_nil ?_
              refine r_ifd rfl (fun hc158 => ?_) (fun hc158 => ?_)
              · exact absurd (by rw [srcP_all, src_ent hR]; rw [parts_one hR (a := a.1) (by rw [← hqq]; exact mem_dl (List.mem_of_getElem? ha)) (by simpa using hap)]; exact if_neg (by omega)) hc158
              · skip
                refine r_skip ?_
                refine r_inBlock ?_
                refine r_region ?_
                refine l_x rfl (x_mv rfl) ?_
                refine l_x rfl (x_add rfl rfl (by omega)) ?_
                refine l_x rfl (x_as rfl) ?_
                refine l_nil ?_
                exact IHc (i + 1) _ _ (by omega) ⟨rfl, rfl, rfl, rfl, rfl, trivial⟩ ⟨by omega, (S109.take 2)⟩
          · omega
      · skip
        refine r_exit rfl ?_
        refine r_seq ?_
        refine r_region ?_
        refine l_call [] [] [] rfl rfl Tryz.call23 rfl (c_enteredX _) ?_
        rintro _ w139 ⟨rfl, hl141⟩
        have S140 := S1c.step hl141
        refine l_x rfl (x_as rfl) ?_
        refine l_nil ?_
        refine r_ret (rs := [.tmp 6]) [_] Tryz.func11 rfl ⟨rfl, trivial⟩ ?_
        exact ⟨rfl, S140.le⟩

end Go.Proofs
