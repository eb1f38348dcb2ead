/- Texts joined for claims: LSums. -/
import Derived.Test.YtdikpjkdbgfoaaaGreatK7867e1294a
/-
  Contracts of functions of the program: each by symbolic execution of its text.
-/
namespace Go.Proofs
open Go Go.Vk Go.Vk.Flow

open Go.Vk.Deed
theorem sumI_abs {f : Int → Int} {B : Int} (hB : 0 ≤ B) (h : ∀ i, -B ≤ f i ∧ f i ≤ B) : ∀ l : List Int, l.length ≤ 40 → -(40 * B) ≤ sumI (l.map f) ∧ sumI (l.map f) ≤ 40 * B := by
  have key : ∀ l : List Int, -(l.length * B) ≤ sumI (l.map f) ∧ sumI (l.map f) ≤ l.length * B := by
    intro l
    induction l with
    | nil => simp [sumI]
    | cons x l ih =>
      have h1 := h x
      rw [List.map_cons, sumI_cons, List.length_cons]
      have e : (((l.length + 1 : Nat) : Int)) * B = l.length * B + B := by rw [Int.natCast_add, Int.add_mul]; simp
      rw [e]; omega
  intro l hl
  have h1 := key l
  have h2 : (l.length : Int) * B ≤ 40 * B := Int.mul_le_mul_of_nonneg_right (by omega) hB
  omega
theorem own_sum_step {f : Int → Int} {k : Nat} (h : k < 40) : sumI ((owners.take (k + 1)).map f) = sumI ((owners.take k).map f) + f ((k : Int) + 1) := by
  rw [List.take_add_one, owners_get h, List.map_append]; exact Go.Vk.Deed.sumI_snoc
theorem map_sum_step {α : Type} {f : α → Int} {l : List α} {i : Nat} {a : α} (ha : l[i]? = some a) : sumI ((l.take (i + 1)).map f) = sumI ((l.take i).map f) + f a := by
  rw [List.take_add_one, ha, List.map_append]; exact Go.Vk.Deed.sumI_snoc
theorem map_sum_bd {α : Type} {f : α → Int} {l : List α} {B : Int} (h : ∀ x ∈ l, 0 ≤ f x ∧ f x ≤ B) (i : Nat) : 0 ≤ sumI ((l.take i).map f) ∧ sumI ((l.take i).map f) ≤ B * (l.take i).length := by
  have := sumI_bd (l := (l.take i).map f) (B := B) fun x hx => by
    obtain ⟨y, hy, rfl⟩ := List.mem_map.1 hx
    exact h y (List.mem_of_mem_take hy)
  rwa [List.length_map] at this
theorem usesD_bd (l : List D) (known day o : Int) : -6000000000000 ≤ usesD l known day o ∧ usesD l known day o ≤ 6000000000000 := by
  have := accOf_bd l known day o
  unfold usesD; omega
abbrev fS (day : Int) (x : D) : Int := if x.kind = 1 ∧ x.day ≤ day then x.parts else 0
theorem fS_bd {day : Int} {x : D} (h : formed x = true) : 0 ≤ fS day x ∧ fS day x ≤ 1000000000 := by
  unfold fS
  split
  · next k => have := formed_parts h k.1; omega
  · omega

set_option maxHeartbeats 4000000 in
/-- couchant/couchantlaw02.DeedSums. -/
theorem lawSums (rs : List Rw) (vl : Value) (known day : Int) (w : World) (hD : DsR 26 3 w vl rs) :
    Cl Tryz.prog 10 #[vl, .int .i64 known, .int .i64 day] w fun v w' => v = .bool true ∧ Le w w' := by
  refine fn_of_run (args := [_, _, _]) 129 Tryz.func10 rfl rfl rfl fun cs => ?_
  have S := Own.start (X := nob) w
  refine r_seq ?_
  refine r_region ?_
  refine l_x rfl (x_as rfl) ?_
  refine l_nil ?_
  refine r_seq ?_
  refine r_seq ?_
  refine r_region ?_
  refine l_x rfl (x_mv rfl) ?_
  refine l_call [] [] [_] rfl rfl Tryz.call41 rfl (c_valid rs _ _ (hD.le S.le)) ?_
  rintro _ w1 ⟨rfl, hl3⟩
  have S2 := S.step hl3
  refine l_x rfl (x_not rfl) ?_
  refine l_nil ?_
  refine r_if rfl (fun hc17 => ?_) (fun hc17 => ?_)
  · skip
    refine r_seq ?_
    refine r_region ?_
    refine l_call [] [] [] rfl rfl Tryz.call23 rfl (c_enteredX _) ?_
    rintro _ w4 ⟨rfl, hl6⟩
    have S5 := S2.step hl6
    refine l_x rfl (x_as rfl) ?_
    refine l_nil ?_
    refine r_ret (rs := [.tmp 6]) [_] Tryz.func10 rfl ⟨rfl, trivial⟩ ?_
    exact ⟨by first | rfl | exact congrArg Value.bool (decide_eq_true rfl), S5.le⟩
  · skip
    have hV : fewB (dl rs) = true ∧ rightD (dl rs) = true := by simpa using hc17
    have hR := hV.2
    refine r_skip ?_
    refine r_seq ?_
    refine r_region ?_
    refine l_x rfl (x_mv rfl) ?_
    refine l_x rfl (x_mv rfl) ?_
    refine l_call [] [] [_, _] rfl rfl Tryz.call49 rfl (c_Counting rs vl known _ (hD.le S2.le)) ?_
    rintro v217 w7 ⟨rq217, hq217, hO217⟩
    have S8 := S2.join hO217
    have hqq := hq217
    rw [if_pos hR] at hqq
    have hlq : rq217.length ≤ 400 := by rw [← dl_len, hqq]; exact count_len hR
    obtain ⟨rq, hrqe⟩ : ∃ q, q = rq217 := ⟨_, rfl⟩
    subst hrqe
    have hfq : ∀ x ∈ dl rq, formed x = true := fun x hx => by rw [hqq] at hx; exact right_formed hR (count_sub hx)
    refine l_x rfl (x_as rfl) ?_
    refine l_nil ?_
    refine r_seq ?_
    refine r_region ?_
    refine l_x rfl (x_as rfl) ?_
    refine l_nil ?_
    refine r_seq ?_
    refine r_seq ?_
    refine r_region ?_
    refine l_x rfl (x_as rfl) ?_
    refine l_nil ?_
    refine r_block ?_
    refine r_loop (G := Nat) (fun i => rq.length - i) (fun i => [(0, vl), (1, .int .i64 known), (2, .int .i64 day), (7, v217), (8, .int .i64 (sumI (((dl rq).take i).map (fS day)))), (9, .int .i64 i)]) (fun i w' => (i ≤ rq.length) ∧ Own nob w w' [vec ED v217 rq]) 0 ⟨rfl, rfl, rfl, rfl, rfl, rfl, trivial⟩ ⟨Nat.zero_le _, (S8.take 1)⟩ ?_
    rintro i ρ w1 ⟨hi, S1⟩ IH
    refine r_seq ?_
    refine r_seq ?_
    refine r_region ?_
    refine l_x rfl (x_mv rfl) ?_
    refine l_x rfl (x_mv rfl) ?_
    refine l_x rfl (x_len (vec_rd (S1.at 0 rfl)) rfl Tryz.runUnderlying23) ?_
    refine l_x rfl (x_lss rfl rfl) ?_
    refine l_nil ?_
    refine r_ifd rfl (fun hc25 => ?_) (fun hc25 => ?_)
    · skip
      obtain ⟨a, ha⟩ : ∃ a, rq[i]? = some a := ⟨_, List.getElem?_eq_getElem (by omega)⟩
      have ham := List.mem_of_getElem? ha
      have hap : a.1.kind = 1 → 1 ≤ a.1.parts ∧ a.1.parts ≤ 1000000000 := fun k => formed_parts (hfq _ (mem_dl ham)) k
      have hbs := map_sum_bd (f := fS day) (fun x hx => fS_bd (hfq x hx)) i
      rw [List.length_take, dl_len] at hbs
      refine r_skip ?_
      refine r_seq ?_
      refine r_block ?_
      refine r_seq ?_
      refine r_region ?_
      refine l_x rfl (x_mv rfl) ?_
      refine l_x rfl (x_mv rfl) ?_
      refine l_index ED rfl (vec_rd (S1.at 0 rfl)) rfl rfl Tryz.runUnderlying23 Tryz.sizeOf26 (by omega) ha ?_
      intro b9 o10 hat11 row12
      refine l_x rfl (x_fieldAddr rfl Tryz.runUnderlying26 rfl Tryz.sizeOf5 (by decide)) ?_
      refine l_x rfl (x_load rfl (ld_cell Tryz.isAgg5 (row12 3 _ rfl))) ?_
      refine l_x rfl (x_eql rfl rfl) ?_
      refine l_x rfl (x_mv rfl) ?_
      refine l_splitd (d := 34) rfl (fun hg34 => ?_) (fun hg34 => ?_)
      · skip
        refine l_x rfl (x_mv rfl) ?_
        refine l_x rfl (x_mv rfl) ?_
        refine l_index ED rfl (vec_rd (S1.at 0 rfl)) rfl rfl Tryz.runUnderlying23 Tryz.sizeOf26 (by omega) ha ?_
        intro b13 o14 hat15 row16
        refine l_x rfl (x_fieldAddr rfl Tryz.runUnderlying26 rfl Tryz.sizeOf3 (by decide)) ?_
        refine l_x rfl (x_load rfl (ld_cell Tryz.isAgg3 (row16 1 _ rfl))) ?_
        refine l_x rfl (x_mv rfl) ?_
        refine l_x rfl (x_leq rfl rfl) ?_
        refine l_x rfl (x_pick_t rfl rfl) ?_
        refine l_nil ?_
        refine r_ifd rfl (fun hc42 => ?_) (fun hc42 => ?_)
        · skip
          refine r_region ?_
          refine l_x rfl (x_mv rfl) ?_
          refine l_x rfl (x_mv rfl) ?_
          refine l_x rfl (x_mv rfl) ?_
          refine l_index ED rfl (vec_rd (S1.at 0 rfl)) rfl rfl Tryz.runUnderlying23 Tryz.sizeOf26 (by omega) ha ?_
          intro b17 o18 hat19 row20
          refine l_x rfl (x_fieldAddr rfl Tryz.runUnderlying26 rfl Tryz.sizeOf3 (by decide)) ?_
          refine l_x rfl (x_load rfl (ld_cell Tryz.isAgg3 (row20 6 _ rfl))) ?_
          refine l_x rfl (x_add rfl rfl (by omega)) ?_
          refine l_x rfl (x_as rfl) ?_
          refine l_nil ?_
          refine r_inBlock ?_
          refine r_region ?_
          refine l_x rfl (x_mv rfl) ?_
          refine l_x rfl (x_add rfl rfl (by omega)) ?_
          refine l_x rfl (x_as rfl) ?_
          refine l_nil ?_
          exact IH (i + 1) _ _ (by omega) ⟨rfl, rfl, rfl, rfl, (congrArg (Value.int .i64) (by rw [map_sum_step (dl_get ha), show fS day a.1 = a.1.parts from if_pos (by omega)])), rfl, trivial⟩ ⟨by omega, (S1.take 1)⟩
        · skip
          refine r_skip ?_
          refine r_inBlock ?_
          refine r_region ?_
          refine l_x rfl (x_mv rfl) ?_
          refine l_x rfl (x_add rfl rfl (by omega)) ?_
          refine l_x rfl (x_as rfl) ?_
          refine l_nil ?_
          exact IH (i + 1) _ _ (by omega) ⟨rfl, rfl, rfl, rfl, (congrArg (Value.int .i64) (by rw [map_sum_step (dl_get ha), show fS day a.1 = 0 from if_neg (by omega)]; omega)), rfl, trivial⟩ ⟨by omega, (S1.take 1)⟩
      · skip
        refine l_pass rfl ?_
        refine l_pass rfl ?_
        refine l_pass rfl ?_
        refine l_pass rfl ?_
        refine l_pass rfl ?_
        refine l_pass rfl ?_
        refine l_pass rfl ?_
        refine l_x rfl (x_pick_f rfl rfl) ?_
        refine l_nil ?_
        refine r_false rfl ?_
        refine r_skip ?_
        refine r_inBlock ?_
        refine r_region ?_
        refine l_x rfl (x_mv rfl) ?_
        refine l_x rfl (x_add rfl rfl (by omega)) ?_
        refine l_x rfl (x_as rfl) ?_
        refine l_nil ?_
        exact IH (i + 1) _ _ (by omega) ⟨rfl, rfl, rfl, rfl, (congrArg (Value.int .i64) (by rw [map_sum_step (dl_get ha), show fS day a.1 = 0 from if_neg (by omega)]; omega)), rfl, trivial⟩ ⟨by omega, (S1.take 1)⟩
    · skip
      obtain rfl : i = rq.length := by omega
      have hse : sumI (((dl rq).take rq.length).map (fS day)) = enteredBy (dl rs) known day := by rw [← dl_len, List.take_length, hqq]; rfl
      refine r_exit rfl ?_
      refine r_seq ?_
      refine r_region ?_
      refine l_x rfl (x_as rfl) ?_
      refine l_nil ?_
      refine r_seq ?_
      refine r_region ?_
      refine l_x rfl (x_as rfl) ?_
      refine l_nil ?_
      refine r_seq ?_
      refine r_seq ?_
      refine r_region ?_
      refine l_x rfl (x_as rfl) ?_
      refine l_nil ?_
      refine r_block ?_
      refine r_loop (G := Nat) (fun k => 40 - k) (fun k => [(0, vl), (1, .int .i64 known), (2, .int .i64 day), (8, .int .i64 (enteredBy (dl rs) known day)), (10, .int .i64 (sumI ((owners.take k).map (fun o => (accOf (dl rs) known day o).holds)))), (11, .int .i64 (sumI ((owners.take k).map (usesD (dl rs) known day)))), (12, .int .i64 ((k : Int) + 1))]) (fun k w' => (k ≤ 40) ∧ Own nob w w' []) 0 ⟨rfl, rfl, rfl, (congrArg (Value.int .i64) hse), rfl, rfl, rfl, trivial⟩ ⟨Nat.zero_le _, (S1.take 0)⟩ ?_
      rintro k ρ w1b ⟨hk, S1b⟩ IHb
      refine r_seq ?_
      refine r_seq ?_
      refine r_region ?_
      refine l_x rfl (x_mv rfl) ?_
      refine l_x rfl (x_leq rfl rfl) ?_
      refine l_nil ?_
      refine r_ifd rfl (fun hc51 => ?_) (fun hc51 => ?_)
      · skip
        obtain ⟨hw1, hw2, hw3, hw4, hw5, hw6⟩ := (law_sums (known := known) (day := day) hR).2.2.2 ((k : Int) + 1) (own_iff.2 (by omega))
        have hbd := accOf_bd (dl rs) known day ((k : Int) + 1)
        have hub := usesD_bd (dl rs) known day ((k : Int) + 1)
        have hb1 := sumI_abs (f := fun o => (accOf (dl rs) known day o).holds) (B := 2000000000000) (by omega) (fun o => (accOf_bd (dl rs) known day o).1) (owners.take k) (by rw [List.length_take, owners_len]; omega)
        have hb2 := sumI_abs (f := usesD (dl rs) known day) (B := 6000000000000) (by omega) (fun o => usesD_bd (dl rs) known day o) (owners.take k) (by rw [List.length_take, owners_len]; omega)
        refine r_skip ?_
        refine r_seq ?_
        refine r_block ?_
        refine r_seq ?_
        refine r_region ?_
        refine l_x rfl (x_mv rfl) ?_
        refine l_x rfl (x_mv rfl) ?_
        refine l_x rfl (x_mv rfl) ?_
        refine l_x rfl (x_mv rfl) ?_
        refine l_call [] [] [_, _, _, _] rfl rfl Tryz.call55 rfl (c_AccountOf rs vl known day ((k : Int) + 1) _ (hD.le S1b.le)) ?_
        rintro _ w21 ⟨rfl, hl23⟩
        have S22 := S1b.step hl23
        refine l_alloc S22 rfl Tryz.zeroValue66 rfl ?_
        intro b27 w24 S25 hl26
        refine l_stores (vs := [_, _, _, _, _]) S25 0 rfl rfl rfl rfl (ones_cons rfl (ones_cons rfl (ones_cons rfl (ones_cons rfl (ones_cons rfl ones_nil))))) Tryz.sizeOf66 (by first | exact Nat.le_refl _ | simp) (splice_all rfl) ?_
        intro w28 S29 hk30
        refine l_nil ?_
        refine r_seq ?_
        refine r_region ?_
        refine l_x rfl (x_mv rfl) ?_
        refine l_x rfl (x_mv rfl) ?_
        refine l_x rfl (x_mv rfl) ?_
        refine l_x rfl (x_mv rfl) ?_
        refine l_call [] [] [_, _, _, _] rfl rfl Tryz.call56 rfl (c_Free rs vl known day ((k : Int) + 1) _ (hD.le S29.le)) ?_
        rintro _ w31 ⟨rfl, hl33⟩
        have S32 := S29.step hl33
        refine l_x rfl (x_as rfl) ?_
        refine l_nil ?_
        refine r_seq ?_
        refine r_seq ?_
        refine r_region ?_
        refine l_x rfl (x_fieldAddr rfl Tryz.runUnderlying66 rfl Tryz.sizeOf3 (by decide)) ?_
        refine l_x rfl (x_load rfl (ld_blk (S32.blk 0 rfl) Tryz.isAgg3 rfl)) ?_
        refine l_x rfl (x_mv rfl) ?_
        refine l_x rfl (x_neq rfl rfl) ?_
        refine l_x rfl (x_mv rfl) ?_
        refine l_splitd (d := 68) rfl (fun hg68 => ?_) (fun hg68 => ?_)
        · exact absurd hw1 hg68
        · skip
          refine l_x rfl (x_fieldAddr rfl Tryz.runUnderlying66 rfl Tryz.sizeOf3 (by decide)) ?_
          refine l_x rfl (x_load rfl (ld_blk (S32.blk 0 rfl) Tryz.isAgg3 rfl)) ?_
          refine l_x rfl (x_lss rfl rfl) ?_
          refine l_x rfl (x_pick_f rfl rfl) ?_
          refine l_x rfl (x_mv rfl) ?_
          refine l_splitd (d := 73) rfl (fun hg73 => ?_) (fun hg73 => ?_)
          · omega
          · skip
            refine l_x rfl (x_fieldAddr rfl Tryz.runUnderlying66 rfl Tryz.sizeOf3 (by decide)) ?_
            refine l_x rfl (x_load rfl (ld_blk (S32.blk 0 rfl) Tryz.isAgg3 rfl)) ?_
            refine l_x rfl (x_lss rfl rfl) ?_
            refine l_x rfl (x_pick_f rfl rfl) ?_
            refine l_x rfl (x_mv rfl) ?_
            refine l_splitd (d := 78) rfl (fun hg78 => ?_) (fun hg78 => ?_)
            · omega
            · skip
              refine l_x rfl (x_fieldAddr rfl Tryz.runUnderlying66 rfl Tryz.sizeOf3 (by decide)) ?_
              refine l_x rfl (x_load rfl (ld_blk (S32.blk 0 rfl) Tryz.isAgg3 rfl)) ?_
              refine l_x rfl (x_lss rfl rfl) ?_
              refine l_x rfl (x_pick_f rfl rfl) ?_
              refine l_x rfl (x_mv rfl) ?_
              refine l_splitd (d := 83) rfl (fun hg83 => ?_) (fun hg83 => ?_)
              · omega
              · skip
                refine l_x rfl (x_mv rfl) ?_
                refine l_x rfl (x_lss rfl rfl) ?_
                refine l_x rfl (x_pick_f rfl rfl) ?_
                refine l_x rfl (x_mv rfl) ?_
                refine l_splitd (d := 87) rfl (fun hg87 => ?_) (fun hg87 => ?_)
                · omega
                · skip
                  refine l_x rfl (x_mv rfl) ?_
                  refine l_x rfl (x_fieldAddr rfl Tryz.runUnderlying66 rfl Tryz.sizeOf3 (by decide)) ?_
                  refine l_x rfl (x_load rfl (ld_blk (S32.blk 0 rfl) Tryz.isAgg3 rfl)) ?_
                  refine l_x rfl (x_fieldAddr rfl Tryz.runUnderlying66 rfl Tryz.sizeOf3 (by decide)) ?_
                  refine l_x rfl (x_load rfl (ld_blk (S32.blk 0 rfl) Tryz.isAgg3 rfl)) ?_
                  refine l_x rfl (x_sub rfl rfl (by omega)) ?_
                  refine l_x rfl (x_fieldAddr rfl Tryz.runUnderlying66 rfl Tryz.sizeOf3 (by decide)) ?_
                  refine l_x rfl (x_load rfl (ld_blk (S32.blk 0 rfl) Tryz.isAgg3 rfl)) ?_
                  refine l_x rfl (x_sub rfl rfl (by omega)) ?_
                  refine l_x rfl (x_neq rfl rfl) ?_
                  refine l_x rfl (x_pick_f rfl rfl) ?_
                  refine l_nil ?_
                  refine r_ifd rfl (fun hc98 => ?_) (fun hc98 => ?_)
                  · exact absurd hw6 hc98
                  · skip
                    refine r_skip ?_
                    refine r_seq ?_
                    refine r_region ?_
                    refine l_x rfl (x_mv rfl) ?_
                    refine l_x rfl (x_fieldAddr rfl Tryz.runUnderlying66 rfl Tryz.sizeOf3 (by decide)) ?_
                    refine l_x rfl (x_load rfl (ld_blk (S32.blk 0 rfl) Tryz.isAgg3 rfl)) ?_
                    refine l_x rfl (x_add rfl rfl (by omega)) ?_
                    refine l_x rfl (x_as rfl) ?_
                    refine l_nil ?_
                    refine r_region ?_
                    refine l_x rfl (x_mv rfl) ?_
                    refine l_x rfl (x_mv rfl) ?_
                    refine l_x rfl (x_mv rfl) ?_
                    refine l_x rfl (x_mv rfl) ?_
                    refine l_x rfl (x_mv rfl) ?_
                    refine l_call [] [] [_, _, _, _] rfl rfl Tryz.call36 rfl (c_Uses rs vl known day ((k : Int) + 1) _ (hD.le S32.le)) ?_
                    rintro _ w34 ⟨rfl, hl36⟩
                    have S35 := S32.step hl36
                    refine l_x rfl (x_add rfl rfl (by omega)) ?_
                    refine l_x rfl (x_as rfl) ?_
                    refine l_nil ?_
                    refine r_inBlock ?_
                    refine r_region ?_
                    refine l_x rfl (x_mv rfl) ?_
                    refine l_x rfl (x_add rfl rfl (by omega)) ?_
                    refine l_x rfl (x_as rfl) ?_
                    refine l_nil ?_
                    exact IHb (k + 1) _ _ (by omega) ⟨rfl, rfl, rfl, rfl, (congrArg (Value.int .i64) (own_sum_step (by omega)).symm), (congrArg (Value.int .i64) (own_sum_step (by omega)).symm), rfl, trivial⟩ ⟨by omega, (S35.take 0)⟩
      · skip
        obtain rfl : k = 40 := by omega
        obtain ⟨_, hs1, hs2, _⟩ := law_sums (known := known) (day := day) hR
        have ht40 : owners.take 40 = owners := List.take_of_length_le (by rw [owners_len]; omega)
        rw [← ht40] at hs1 hs2
        refine r_exit rfl ?_
        refine r_seq ?_
        refine r_region ?_
        refine l_call [] [] [] rfl rfl Tryz.call23 rfl (c_enteredX _) ?_
        rintro _ w37 ⟨rfl, hl39⟩
        have S38 := S1b.step hl39
        refine l_x rfl (x_mv rfl) ?_
        refine l_x rfl (x_mv rfl) ?_
        refine l_x rfl (x_mv rfl) ?_
        refine l_x rfl (x_eql rfl rfl) ?_
        refine l_x rfl (x_pick_t rfl rfl) ?_
        refine l_x rfl (x_mv rfl) ?_
        refine l_splitd (d := 116) rfl (fun hg116 => ?_) (fun hg116 => ?_)
        · skip
          refine l_x rfl (x_mv rfl) ?_
          refine l_x rfl (x_mv rfl) ?_
          refine l_x rfl (x_eql rfl rfl) ?_
          refine l_x rfl (x_pick_t rfl rfl) ?_
          refine l_x rfl (x_mv rfl) ?_
          refine l_splitd (d := 121) rfl (fun hg121 => ?_) (fun hg121 => ?_)
          · skip
            refine l_x rfl (x_mv rfl) ?_
            refine l_x rfl (x_mv rfl) ?_
            refine l_x rfl (x_mv rfl) ?_
            refine l_call [] [] [_, _, _] rfl rfl Tryz.call24 rfl ((c_Total rs vl known day _ (hD.le S38.le)).mono (fun v w' h => (⟨h.1.trans (congrArg (Value.int .i64) (law_sums hR).1), h.2⟩ : v = .int .i64 (enteredBy (dl rs) known day) ∧ Le _ w'))) ?_
            rintro _ w40 ⟨rfl, hl42⟩
            have S41 := S38.step hl42
            refine l_x rfl (x_mv rfl) ?_
            refine l_x rfl (x_eql rfl rfl) ?_
            refine l_x rfl (x_pick_t rfl rfl) ?_
            refine l_x rfl (x_as rfl) ?_
            refine l_nil ?_
            refine r_ret (rs := [.tmp 6]) [_] Tryz.func10 rfl ⟨rfl, trivial⟩ ?_
            exact ⟨by first | rfl | exact congrArg Value.bool (decide_eq_true rfl), S41.le⟩
          · exact absurd hs2 hg121
        · exact absurd hs1 hg116

end Go.Proofs
