/- Texts joined for claims: M27, M28, G7. -/
import Derived.Test.YtaigapdghhoncaaGreatDoorKfe2d6d7a1f
import Derived.Test.YtaigapdghhoncaaGreatDoorK19644418ce
set_option linter.unusedVariables false
set_option linter.unusedSimpArgs false
set_option linter.unusedSectionVars false
/-
  Contracts of functions of the program: each by symbolic execution of its text.
-/
namespace Go.Proofs
open Go Go.Vk Go.Vk.Flow

open Go.Vk.Mark
open Go.Vk.Deed (i64 rng rng_iff owners sumI sumI_cons sumI_snoc)
open Go.Vk.Deed (cmpI)

/-- couchant/mark.Meets$1. -/
theorem c_meets1 (c : Clm) (w : World) :
    Cl Tryz.prog 101 #[Value.agg (encCl c).toArray] w fun v w' => v = .bool (zeroC c) ∧ Le w w' := by
  refine fn_of_run (args := [_]) 6 Tryz.func101 rfl rfl rfl fun cs => ?_
  have S := Own.start (X := nob) w
  refine r_seq ?_
  refine r_region ?_
  refine l_box S rfl rfl ?_
  intro b4 w1 S2 hl3
  refine l_x rfl (x_as rfl) ?_
  refine l_nil ?_
  refine r_seq ?_
  refine r_region ?_
  refine l_x rfl (x_fieldAddr rfl Tryz.runUnderlying83 rfl Tryz.sizeOf3 (by decide)) ?_
  refine l_x rfl (x_load rfl (ld_blk (S2.blk 0 rfl) Tryz.isAgg3 rfl)) ?_
  refine l_x rfl (x_eql rfl rfl) ?_
  refine l_x rfl (x_as rfl) ?_
  refine l_nil ?_
  refine r_ret (rs := [.tmp 2]) [_] Tryz.func101 rfl ⟨rfl, trivial⟩ ?_
  exact ⟨rfl, S2.le⟩

set_option maxHeartbeats 4000000 in
/-- couchant/mark.Meets. -/
theorem c_Meets (b : Sm) (vm vf : Value) (day : Int) (found : List Sg) (vs : Value) (cs9 : List Clm) (vq : Value) (hm : found.length ≤ 9223372036854775807) (hmc : cs9.length ≤ 9223372036854775807) (hsg : ∀ t ∈ found, SgOk t) (os : List Int) (vo : Value) (w : World) (hB : SmR 39 41 w vm vf b) (hF : Rd ESG w vs found) (hC : Rd ECL w vq cs9) (hO : Rd EI w vo os) :
    Cl Tryz.prog 29 #[.agg #[vm, vf], Value.int .i64 day, vs, vq, vo] w fun v w' => (∃ e, e ≠ 0 ∧ v = .tuple #[.bool false, .int .i64 e] ∧ e = beginE b day true found cs9 ∧ Le w w') ∨ (∃ cz, beginE b day true found cs9 = 0 ∧ cz.Perm cs9 ∧ SortedL (fun x y : Clm => cmpI x.owner y.owner) cz ∧ v = .tuple #[.bool (meetsM os (mks b day found cz) cz), .int .i64 0] ∧ Le w w') := by
  refine fn_of_run (args := [_, _, _, _, _]) 79 Tryz.func29 rfl rfl rfl fun cs => ?_
  have S := Own.start (X := nob) w
  refine r_seq ?_
  refine r_region ?_
  refine l_box S rfl rfl ?_
  intro b4 w1 S2 hl3
  refine l_x rfl (x_as rfl) ?_
  refine l_x rfl (x_as rfl) ?_
  refine l_nil ?_
  refine r_seq ?_
  refine r_region ?_
  refine l_x rfl (x_load rfl (ld_blks (S2.blk 0 rfl) Tryz.isAgg25 Tryz.sizeOf25 rfl rfl)) ?_
  refine l_x rfl (x_mv rfl) ?_
  refine l_x rfl (x_mv rfl) ?_
  refine l_x rfl (x_mv rfl) ?_
  refine l_call [] [] [_, _, _, _, _] rfl rfl Tryz.call89 rfl (c_seated b vm vf day found _ cs9 _ true hm hmc hsg _ (hB.le S2.le) (hF.le S2.le) (hC.le S2.le)) ?_
  rintro _ w5 (⟨e9, hne9, rfl, he9, hl225⟩ | ⟨bb9, vc9, vu9, vn9, cz9, rfl, hb9, hp9, hs9, hN225, hl225⟩)
  · skip
    have S6 := S2.step hl225
    refine l_x rfl (x_mv rfl) ?_
    refine l_x rfl (x_extract rfl rfl) ?_
    refine l_x rfl (x_extract rfl rfl) ?_
    refine l_x rfl (x_as rfl) ?_
    refine l_x rfl (x_as rfl) ?_
    refine l_nil ?_
    refine r_seq ?_
    refine r_seq ?_
    refine r_region ?_
    refine l_x rfl (x_mv rfl) ?_
    refine l_x rfl (x_neq rfl rfl) ?_
    refine l_x rfl (x_mv rfl) ?_
    refine l_splitd (d := 27) rfl (fun hg27 => ?_) (fun hg27 => ?_)
    · skip
      refine l_pass rfl ?_
      refine l_pass rfl ?_
      refine l_pass rfl ?_
      refine l_pass rfl ?_
      refine l_pass rfl ?_
      refine l_x rfl (x_pick_t rfl rfl) ?_
      refine l_nil ?_
      refine r_true rfl ?_
      refine r_seq ?_
      refine r_region ?_
      refine l_x rfl (x_mv rfl) ?_
      refine l_x rfl (x_as rfl) ?_
      refine l_x rfl (x_as rfl) ?_
      refine l_nil ?_
      refine r_ret (rs := [.tmp 10, .tmp 11]) [_, _] Tryz.func29 rfl ⟨rfl, rfl, trivial⟩ ?_
      exact .inl ⟨e9, hne9, rfl, he9, S6.le⟩
    exact absurd hne9 hg27
  have S7 := S2.add hl225 hN225
  have hbo := bench_ok hb9 hp9
  have hf60 := bench_len hb9
  refine l_x rfl (x_mv rfl) ?_
  refine l_x rfl (x_extract rfl rfl) ?_
  refine l_x rfl (x_extract rfl rfl) ?_
  refine l_x rfl (x_as rfl) ?_
  refine l_x rfl (x_as rfl) ?_
  refine l_nil ?_
  refine r_seq ?_
  refine r_seq ?_
  refine r_region ?_
  refine l_x rfl (x_mv rfl) ?_
  refine l_x rfl (x_neq rfl rfl) ?_
  refine l_x rfl (x_mv rfl) ?_
  refine l_splitd (d := 27) rfl (fun hg27 => ?_) (fun hg27 => ?_)
  · exact absurd rfl hg27
  refine l_x rfl (x_mv rfl) ?_
  refine l_x rfl (x_len (hO.le S7.le) rfl Tryz.runUnderlying52) ?_
  refine l_x rfl (x_mv rfl) ?_
  refine l_x rfl (x_len (hF.le S7.le) rfl Tryz.runUnderlying50) ?_
  refine l_x rfl (x_neq rfl rfl) ?_
  refine l_x rfl (x_pick_f rfl rfl) ?_
  refine l_nil ?_
  refine r_ifd rfl (fun hc33 => ?_) (fun hc33 => ?_)
  · skip
    refine r_seq ?_
    refine r_region ?_
    refine l_x rfl (x_mv rfl) ?_
    refine l_x rfl (x_as rfl) ?_
    refine l_x rfl (x_as rfl) ?_
    refine l_nil ?_
    refine r_ret (rs := [.tmp 10, .tmp 11]) [_, _] Tryz.func29 rfl ⟨rfl, rfl, trivial⟩ ?_
    exact .inr ⟨cz9, hb9, hp9, hs9, congrArg (fun q => Value.tuple #[.bool q, .int .i64 0]) (meets_len (by rw [mks_len]; exact hc33)).symm, S7.le⟩
  have hlen : os.length = (mks b day found cz9).length := by rw [mks_len]; omega
  refine r_skip ?_
  refine r_seq ?_
  refine r_seq ?_
  refine r_region ?_
  refine l_x rfl (x_mv rfl) ?_
  refine l_x rfl (x_len (hO.le S7.le) rfl Tryz.runUnderlying52) ?_
  refine l_x rfl (x_mv rfl) ?_
  refine l_nil ?_
  refine r_block ?_
  refine r_loop (G := Nat × List Clm) (fun ⟨i, cz⟩ => os.length - i) (fun ⟨i, cz⟩ => [(12, .pointer (some ⟨bb9, 0, none⟩)), (35, vo), (36, Value.int .i64 os.length), (37, Value.int .i64 i)]) (fun ⟨i, cz⟩ w' => (i ≤ os.length) ∧ (meetF (os.zip (mks b day found cz9)) cz9 = meetF ((os.zip (mks b day found cz9)).drop i) cz) ∧ (cz.length = cz9.length) ∧ (∀ x ∈ cz, -(i : Int) ≤ x.number ∧ x.number ≤ 60) ∧ Own nob w w' [blk bb9 [vc9, vu9, vn9] 130, vec ECL vc9 cz, vec EUK vu9 (mks b day found cz9), vec EI vn9 (cnz b day found cz9)]) (0, cz9) ⟨rfl, rfl, rfl, rfl, trivial⟩ ⟨Nat.zero_le _, rfl, rfl, fun x hx => by have := hbo.b x hx; omega, (S7.pick [1] (by decide) rfl).open⟩ ?_
  rintro ⟨i, cz⟩ ρ w1 ⟨hi, hF9, hzl, hnum, S1⟩ IH
  refine r_seq ?_
  refine r_region ?_
  refine l_x rfl (x_lss rfl rfl) ?_
  refine l_nil ?_
  refine r_seq ?_
  refine r_ifd rfl (fun hc38 => ?_) (fun hc38 => ?_)
  · skip
    obtain ⟨o, hob⟩ : ∃ o, os[i]? = some o := ⟨_, List.getElem?_eq_getElem (by omega)⟩
    obtain ⟨t, hm9⟩ : ∃ t, (mks b day found cz9)[i]? = some t := ⟨_, List.getElem?_eq_getElem (by omega)⟩
    have ht16 := hbo.small (List.mem_of_getElem? hm9)
    refine r_skip ?_
    refine r_seq ?_
    refine r_block ?_
    refine r_seq ?_
    refine r_region ?_
    refine l_x rfl (x_mv rfl) ?_
    refine l_index EI rfl (hO.le S1.le) rfl rfl Tryz.runUnderlying52 Tryz.sizeOf3 (by omega) (by first | assumption | exact List.getElem?_eq_getElem (by omega)) ?_
    intro b8 o9 hat10 row11
    refine l_x rfl (x_load rfl (ld_cell Tryz.isAgg3 (row11 0 _ rfl))) ?_
    refine l_x rfl (x_as rfl) ?_
    refine l_x rfl (x_as rfl) ?_
    refine l_nil ?_
    refine r_seq ?_
    refine r_seq ?_
    refine r_region ?_
    refine l_x rfl (x_mv rfl) ?_
    refine l_x rfl (x_eql rfl rfl) ?_
    refine l_nil ?_
    refine r_ifd rfl (fun hc43 => ?_) (fun hc43 => ?_)
    · skip
      refine r_exit rfl ?_
      refine r_region ?_
      refine l_x rfl (x_add rfl rfl (by omega)) ?_
      refine l_x rfl (x_mv rfl) ?_
      refine l_nil ?_
      exact IH (i + 1, cz) _ _ (by dsimp only; omega) ⟨rfl, rfl, rfl, rfl, trivial⟩ ⟨by omega, by rw [meet_zero hob hm9 hc43]; exact hF9, hzl, fun x hx => by have := hnum x hx; omega, (S1.take 4)⟩
    refine r_skip ?_
    refine r_seq ?_
    refine r_region ?_
    refine l_x rfl (x_mv rfl) ?_
    refine l_x rfl (x_mv rfl) ?_
    refine l_call [] [] [_, _] rfl rfl Tryz.call99 rfl (c_claim bb9 vc9 vu9 vn9 cz (mks b day found cz9) (cnz b day found cz9) o (by rw [hzl]; exact hbo.l) _ ⟨S1.blk 0 rfl, vec_rd ((S1.ro 1 rfl).ok), vec_rd ((S1.ro 2 rfl).ok), vec_rd ((S1.ro 3 rfl).ok)⟩) ?_
    rintro _ w12 ⟨rfl, hl14⟩
    have S13 := S1.step hl14
    refine l_x rfl (x_as rfl) ?_
    refine l_nil ?_
    refine r_seq ?_
    refine r_seq ?_
    rcases ix_casesG (fun a : Clm => decide (a.owner = o)) cz with ⟨hn9, hno⟩ | ⟨q, c, hq, hcq, hap⟩
    · skip
      refine r_slot 16 (.int .i64 (-1)) (congrArg (Value.int .i64) hn9) ?_
      refine r_region ?_
      refine l_x rfl (x_mv rfl) ?_
      refine l_x rfl (x_lss rfl rfl) ?_
      refine l_x rfl (x_mv rfl) ?_
      refine l_splitd (d := 49) rfl (fun hg49 => ?_) (fun hg49 => ?_)
      · skip
        refine l_pass rfl ?_
        refine l_pass rfl ?_
        refine l_pass rfl ?_
        refine l_pass rfl ?_
        refine l_pass rfl ?_
        refine l_pass rfl ?_
        refine l_pass rfl ?_
        refine l_pass rfl ?_
        refine l_pass rfl ?_
        refine l_pass rfl ?_
        refine l_pass rfl ?_
        refine l_x rfl (x_pick_t rfl rfl) ?_
        refine l_nil ?_
        refine r_true rfl ?_
        refine r_seq ?_
        refine r_region ?_
        refine l_x rfl (x_as rfl) ?_
        refine l_x rfl (x_as rfl) ?_
        refine l_nil ?_
        refine r_ret (rs := [.tmp 10, .tmp 11]) [_, _] Tryz.func29 rfl ⟨rfl, rfl, trivial⟩ ?_
        exact .inr ⟨cz9, hb9, hp9, hs9, congrArg (fun q => Value.tuple #[.bool q, .int .i64 0]) (meets_no (hF9.trans (meet_no hob hm9 hc43 hn9))).symm, S13.le⟩
      omega
    refine r_slot 16 (.int .i64 (q : Int)) (congrArg (Value.int .i64) hq) ?_
    have hql := (List.getElem?_eq_some_iff.1 hcq).1
    have hz10 := hbo.l
    have hnb := hnum c (List.mem_of_getElem? hcq)
    refine r_region ?_
    refine l_x rfl (x_mv rfl) ?_
    refine l_x rfl (x_lss rfl rfl) ?_
    refine l_x rfl (x_mv rfl) ?_
    refine l_splitd (d := 49) rfl (fun hg49 => ?_) (fun hg49 => ?_)
    · omega
    refine l_x rfl (x_mv rfl) ?_
    refine l_x rfl (x_nilCheck rfl) ?_
    refine l_x rfl (x_fieldAddr rfl Tryz.runUnderlying130 rfl Tryz.sizeOf128 (by decide)) ?_
    refine l_x rfl (x_load rfl (ld_blk (S13.blk 0 rfl) Tryz.isAgg128 rfl)) ?_
    refine l_x rfl (x_mv rfl) ?_
    refine l_index EUK rfl (vec_rd (S13.at 2 rfl)) rfl rfl Tryz.runUnderlying128 Tryz.sizeOf138 (by omega) (by first | assumption | exact List.getElem?_eq_getElem (by omega)) ?_
    intro b15 o16 hat17 row18
    refine l_x rfl (x_load rfl (ld_cell Tryz.isAgg138 (row18 0 _ rfl))) ?_
    refine l_x rfl (x_mv rfl) ?_
    refine l_x rfl (x_shr (a := t) (n := q) rfl rfl (show q ≤ 16 by omega)) ?_
    refine l_x rfl (x_and (a := (t / 2 ^ q)) (c := 1) rfl rfl (show (t / 2 ^ q) < 32768 from Nat.lt_of_le_of_lt (Nat.div_le_self _ _) (by omega)) (show 1 < 32768 by decide)) ?_
    refine l_x rfl (x_eql rfl rfl) ?_
    refine l_x rfl (x_pick_f rfl rfl) ?_
    refine l_nil ?_
    refine r_ifd rfl (fun hc61 => ?_) (fun hc61 => ?_)
    · skip
      have hbt : t.testBit q = false := bit_and0.1 hc61
      refine r_seq ?_
      refine r_region ?_
      refine l_x rfl (x_as rfl) ?_
      refine l_x rfl (x_as rfl) ?_
      refine l_nil ?_
      refine r_ret (rs := [.tmp 10, .tmp 11]) [_, _] Tryz.func29 rfl ⟨rfl, rfl, trivial⟩ ?_
      exact .inr ⟨cz9, hb9, hp9, hs9, congrArg (fun q => Value.tuple #[.bool q, .int .i64 0]) (meets_no (hF9.trans (meet_bit hob hm9 hc43 hq hbt))).symm, S13.le⟩
    have hbt : t.testBit q = true := by
      cases e : t.testBit q with
      | true => rfl
      | false => exact absurd (bit_and0.2 e) hc61
    refine r_skip ?_
    refine r_region ?_
    refine l_x rfl (x_mv rfl) ?_
    refine l_x rfl (x_nilCheck rfl) ?_
    refine l_x rfl (x_fieldAddr rfl Tryz.runUnderlying130 rfl Tryz.sizeOf51 (by decide)) ?_
    refine l_x rfl (x_load rfl (ld_blk (S13.blk 0 rfl) Tryz.isAgg51 rfl)) ?_
    refine l_x rfl (x_mv rfl) ?_
    refine l_index ECL rfl (vec_rd (S13.at 1 rfl)) rfl rfl Tryz.runUnderlying51 Tryz.sizeOf83 (by omega) (by first | assumption | exact List.getElem?_eq_getElem (by omega)) ?_
    intro b19 o20 hat21 row22
    refine l_x rfl (x_fieldAddr rfl Tryz.runUnderlying83 rfl Tryz.sizeOf3 (by decide)) ?_
    refine l_x rfl (x_load rfl (ld_cell Tryz.isAgg3 (row22 1 _ rfl))) ?_
    refine l_x rfl (x_sub rfl rfl (by omega)) ?_
    refine l_index ECL rfl (vec_rd (S13.at 1 rfl)) rfl rfl Tryz.runUnderlying51 Tryz.sizeOf83 (by omega) (by first | assumption | exact List.getElem?_eq_getElem (by omega)) ?_
    intro b23 o24 hat25 row26
    refine l_x rfl (x_fieldAddr rfl Tryz.runUnderlying83 rfl Tryz.sizeOf3 (by decide)) ?_
    refine l_storevi (a' := ⟨c.owner, c.number - 1⟩) (f := 1) S13 1 rfl rfl hat25 rfl rfl Tryz.sizeOf3 hcq (by decide) rfl ?_
    intro w27 S28 hk29
    refine l_nil ?_
    refine r_inBlock ?_
    refine r_region ?_
    refine l_x rfl (x_add rfl rfl (by omega)) ?_
    refine l_x rfl (x_mv rfl) ?_
    refine l_nil ?_
    exact IH (i + 1, cz.set q ⟨c.owner, c.number - 1⟩) _ _ (by dsimp only; omega) ⟨rfl, rfl, rfl, rfl, trivial⟩ ⟨by omega, by rw [meet_give hob hm9 hc43 hq hbt hcq]; exact hF9, by rw [List.length_set]; exact hzl, meet_bd hnum hcq, (S28.take 4)⟩
  obtain rfl : i = os.length := by omega
  refine r_exit rfl ?_
  refine r_seq ?_
  refine r_region ?_
  refine l_x rfl (x_mv rfl) ?_
  refine l_x rfl (x_nilCheck rfl) ?_
  refine l_x rfl (x_fieldAddr rfl Tryz.runUnderlying130 rfl Tryz.sizeOf51 (by decide)) ?_
  refine l_x rfl (x_load rfl (ld_blk (S1.blk 0 rfl) Tryz.isAgg51 rfl)) ?_
  refine l_call [] [] [_, _] rfl rfl Tryz.call100 rfl (c_allC _ cz zeroC 101 [] (by have := hbo.l; omega) _ (vec_rd (S1.at 1 rfl)) Tryz.call101 (fun x _ w1 _ => c_meets1 x w1)) ?_
  rintro _ w30 ⟨rfl, hl32⟩
  have S31 := S1.step hl32
  refine l_x rfl (x_as rfl) ?_
  refine l_x rfl (x_as rfl) ?_
  refine l_nil ?_
  refine r_ret (rs := [.tmp 10, .tmp 11]) [_, _] Tryz.func29 rfl ⟨rfl, rfl, trivial⟩ ?_
  exact .inr ⟨cz9, hb9, hp9, hs9, congrArg (fun q => Value.tuple #[.bool q, .int .i64 0]) (meets_yes hlen (hF9.trans (meet_end hlen rfl))).symm, S31.le⟩

end Go.Proofs

/-
  Contracts of functions of the program: each by symbolic execution of its text.
-/
namespace Go.Proofs
open Go Go.Vk Go.Vk.Flow

open Go.Vk.Mark
open Go.Vk.Deed (i64 rng rng_iff owners sumI sumI_cons sumI_snoc)
open Go.Vk.Deed (cmpI)

theorem old2 {X : Nat → Prop} {u w1 wz : World} {r : Rsc} {L : List Rsc} (S : Own r.fp w1 wz L) (hK : Keep X u w1) (hfp : ∀ b, r.fp b → u.heap.size ≤ b ∨ X b) : Keep X u wz := by
  refine ⟨S.keep.os.trans hK.os, S.keep.tape.trans hK.tape, S.keep.output.trans hK.output, Nat.le_trans hK.size S.keep.size, fun b hb hx => ?_, Nat.le_trans hK.drawn S.keep.drawn⟩
  exact (S.keep.block b (Nat.lt_of_lt_of_le hb hK.size) fun hr => by
    rcases hfp b hr with h | h
    · omega
    exact hx h).trans (hK.block b hb hx)
/-- Some set that is short has these owners. -/
def ckS (cz : List Clm) (os : List Int) (l : List Nat) : Bool := l.any fun s => decide (lsP cz s cz.length = os)
theorem ck_yes {cz : List Clm} {os : List Int} {cn : List Int} {s : Nat} (hs : s < 2 ^ cz.length) (hz : zshort cz cn s = true) (h : lsP cz s cz.length = os) : true = ckS cz os (shP cz cn (2 ^ cz.length)) :=
  (List.any_eq_true.2 ⟨s, List.mem_filter.2 ⟨List.mem_range.2 hs, hz⟩, by simp [h]⟩).symm
theorem ck_snoc {cz : List Clm} {os : List Int} {l : List Nat} {s : Nat} (h : ckS cz os l = false) (hn : ¬ lsP cz s cz.length = os) : ckS cz os (l ++ [s]) = false := by
  unfold ckS at *; rw [List.any_append, h]; simp [hn]

/-- slices.Equal[[]int,int]. -/
theorem c_EqualI (va : Value) (a : List Int) (vb : Value) (b : List Int) (hm : a.length ≤ 9223372036854775807) (w : World) (Ha : Rd EI w va a) (Hb : Rd EI w vb b) :
    Cl Tryz.prog 119 #[va, vb] w fun v w' => v = .bool (decide (a = b)) ∧ Le w w' := by
  refine fn_of_run (args := [_, _]) 26 Tryz.func119 rfl rfl rfl fun cs => ?_
  have S := Own.start (X := nob) w
  refine r_seq ?_
  refine r_region ?_
  refine l_x rfl (x_as rfl) ?_
  refine l_nil ?_
  refine r_seq ?_
  refine r_seq ?_
  refine r_region ?_
  refine l_x rfl (x_mv rfl) ?_
  refine l_x rfl (x_len (Ha.le S.le) rfl Tryz.runUnderlying52) ?_
  refine l_x rfl (x_mv rfl) ?_
  refine l_x rfl (x_len (Hb.le S.le) rfl Tryz.runUnderlying52) ?_
  refine l_x rfl (x_neq rfl rfl) ?_
  refine l_nil ?_
  refine r_ifd rfl (fun hc10 => ?_) (fun hc10 => ?_)
  · skip
    refine r_seq ?_
    refine r_region ?_
    refine l_x rfl (x_as rfl) ?_
    refine l_nil ?_
    refine r_ret (rs := [.tmp 4]) [_] Tryz.func119 rfl ⟨rfl, trivial⟩ ?_
    exact ⟨congrArg Value.bool (decide_eq_false (fun h => by subst h; omega)).symm, S.le⟩
  have hab : a.length = b.length := by omega
  refine r_skip ?_
  refine r_seq ?_
  refine r_seq ?_
  refine r_region ?_
  refine l_x rfl (x_mv rfl) ?_
  refine l_x rfl (x_len (Ha.le S.le) rfl Tryz.runUnderlying52) ?_
  refine l_x rfl (x_mv rfl) ?_
  refine l_nil ?_
  refine r_block ?_
  refine r_loop (G := Nat) (fun i => a.length - i) (fun i => [(0, va), (1, vb), (12, Value.int .i64 a.length), (13, Value.int .i64 i)]) (fun i w' => (i ≤ a.length) ∧ (a.take i = b.take i) ∧ Own nob w w' []) 0 ⟨rfl, rfl, rfl, rfl, trivial⟩ ⟨Nat.zero_le _, by simp, S⟩ ?_
  rintro i ρ w1 ⟨hi, hs, S1⟩ IH
  refine r_seq ?_
  refine r_region ?_
  refine l_x rfl (x_lss rfl rfl) ?_
  refine l_nil ?_
  refine r_seq ?_
  refine r_ifd rfl (fun hc14 => ?_) (fun hc14 => ?_)
  · skip
    obtain ⟨x, hx⟩ : ∃ x, a[i]? = some x := ⟨_, List.getElem?_eq_getElem (by omega)⟩
    obtain ⟨y, hy⟩ : ∃ y, b[i]? = some y := ⟨_, List.getElem?_eq_getElem (by omega)⟩
    refine r_skip ?_
    refine r_seq ?_
    refine r_block ?_
    refine r_seq ?_
    refine r_region ?_
    refine l_x rfl (x_mv rfl) ?_
    refine l_x rfl (x_as rfl) ?_
    refine l_nil ?_
    refine r_seq ?_
    refine r_drawR 9 Tryz.mixed (by kernel_rfl) ?_
    refine w_x rfl (fun w1 h1 => x_mv rfl) ?_
    refine w_x rfl (fun w1 h1 => x_mv rfl) ?_
    refine w_index EI rfl (Ha.le S1.le) rfl rfl Tryz.runUnderlying52 Tryz.sizeOf3 (by omega) hx ?_
    intro b1 o2 hat3 row4
    refine w_x rfl (fun w1 h1 => x_load rfl (ld_cell Tryz.isAgg3 ((row4.le h1) 0 _ rfl))) ?_
    refine w_x rfl (fun w1 h1 => x_mv rfl) ?_
    refine w_x rfl (fun w1 h1 => x_mv rfl) ?_
    refine w_index EI rfl (Hb.le S1.le) rfl rfl Tryz.runUnderlying52 Tryz.sizeOf3 (by omega) hy ?_
    intro b5 o6 hat7 row8
    refine w_x rfl (fun w1 h1 => x_load rfl (ld_cell Tryz.isAgg3 ((row8.le h1) 0 _ rfl))) ?_
    refine w_x rfl (fun w1 h1 => x_neq rfl rfl) ?_
    refine w_nil ?_
    intro w9 hl10
    have S11 := S1.step hl10
    refine l_nil ?_
    refine r_ifd rfl (fun hc24 => ?_) (fun hc24 => ?_)
    · skip
      refine r_seq ?_
      refine r_region ?_
      refine l_x rfl (x_as rfl) ?_
      refine l_nil ?_
      refine r_ret (rs := [.tmp 4]) [_] Tryz.func119 rfl ⟨rfl, trivial⟩ ?_
      exact ⟨congrArg Value.bool (decide_eq_false (fun h => by subst h; rw [hx] at hy; exact hc24 (Option.some.inj hy))).symm, S11.le⟩
    have hc24 : x = y := Decidable.not_not.1 hc24
    refine r_skip ?_
    refine r_inBlock ?_
    refine r_region ?_
    refine l_x rfl (x_add rfl rfl (by omega)) ?_
    refine l_x rfl (x_mv rfl) ?_
    refine l_nil ?_
    exact IH (i + 1) _ _ (by omega) ⟨rfl, rfl, rfl, rfl, trivial⟩ ⟨by omega, take_same hx hy hc24 hs, S11⟩
  have hie : i = a.length := by omega
  subst hie
  refine r_exit rfl ?_
  refine r_seq ?_
  refine r_region ?_
  refine l_x rfl (x_as rfl) ?_
  refine l_nil ?_
  refine r_ret (rs := [.tmp 4]) [_] Tryz.func119 rfl ⟨rfl, trivial⟩ ?_
  exact ⟨congrArg Value.bool (decide_eq_true (by rw [List.take_length] at hs; rw [hs, hab, List.take_length])).symm, S1.le⟩

theorem le_over {w u wz : World} {r : Rsc} (h0 : Le w u) (hfp : ∀ b, r.fp b → w.heap.size ≤ b) (hk : Keep r.fp u wz) : Le w wz := by
  refine ⟨hk.os.trans h0.os, hk.tape.trans h0.tape, hk.output.trans h0.output, Nat.le_trans h0.size hk.size, fun b hb _ => ?_, Nat.le_trans h0.drawn hk.drawn⟩
  exact (hk.block b (Nat.lt_of_lt_of_le hb h0.size) fun hx => by have := hfp b hx; omega).trans (h0.block b hb id)

set_option maxHeartbeats 8000000 in
/-- couchant/mark.CheckShortage. -/
theorem c_CheckShortage (b : Sm) (vm vf : Value) (day : Int) (found : List Sg) (vs : Value) (cs9 : List Clm) (vq : Value) (hm : found.length ≤ 9223372036854775807) (hmc : cs9.length ≤ 9223372036854775807) (hsg : ∀ t ∈ found, SgOk t) (os : List Int) (vo : Value) (w : World) (hB : SmR 39 41 w vm vf b) (hF : Rd ESG w vs found) (hC : Rd ECL w vq cs9) (hO : Rd EI w vo os) :
    Cl Tryz.prog 46 #[.agg #[vm, vf], Value.int .i64 day, vs, vq, vo] w fun v w' => (∃ e, e ≠ 0 ∧ v = .tuple #[.bool false, .int .i64 e] ∧ e = beginE b day true found cs9 ∧ Le w w') ∨ (∃ cz, beginE b day true found cs9 = 0 ∧ cz.Perm cs9 ∧ SortedL (fun x y : Clm => cmpI x.owner y.owner) cz ∧ v = .tuple #[.bool (ckS cz os (shP cz (cnz b day found cz) (2 ^ cz.length))), .int .i64 0] ∧ Le w w') := by
  refine fn_of_run (args := [_, _, _, _, _]) 34 Tryz.func46 rfl rfl rfl fun cs => ?_
  have S := Own.start (X := nob) w
  refine r_seq ?_
  refine r_region ?_
  refine l_box S rfl rfl ?_
  intro b4 w1 S2 hl3
  refine l_box S2 rfl (Rd.cells (hO.le S2.le)) ?_
  intro b8 w5 S6 hl7
  refine l_alloc S6 rfl Tryz.zeroValue4 rfl ?_
  intro b12 w9 S10 hl11
  refine l_alloc S10 rfl Tryz.zeroValue31 rfl ?_
  intro b16 w13 S14 hl15
  refine l_nil ?_
  refine r_seq ?_
  refine r_region ?_
  refine l_x rfl (x_load rfl (ld_blks (S14.blk 0 rfl) Tryz.isAgg25 Tryz.sizeOf25 rfl rfl)) ?_
  refine l_x rfl (x_mv rfl) ?_
  refine l_x rfl (x_mv rfl) ?_
  refine l_x rfl (x_mv rfl) ?_
  refine l_call [] [] [_, _, _, _, _] rfl rfl Tryz.call89 rfl (c_seated b vm vf day found _ cs9 _ true hm hmc hsg _ (hB.le S14.le) (hF.le S14.le) (hC.le S14.le)) ?_
  rintro _ w17 (⟨e9, hne9, rfl, he9, hl2017⟩ | ⟨bb9, vc9, vu9, vn9, cz9, rfl, hb9, hp9, hs9, hN2017, hl2017⟩)
  · skip
    have S18 := S14.step hl2017
    refine l_x rfl (x_mv rfl) ?_
    refine l_x rfl (x_extract rfl rfl) ?_
    refine l_x rfl (x_extract rfl rfl) ?_
    refine l_alloc S18 rfl Tryz.zeroValue124 rfl ?_
    intro b22 w19 S20 hl21
    refine l_storeq (c' := [_]) S20 4 rfl rfl rfl rfl rfl Tryz.sizeOf124 (by first | (simp; done) | exact Nat.le_of_ble_eq_true rfl) rfl ?_
    intro w23 S24 hk25
    refine l_x rfl (x_as rfl) ?_
    refine l_nil ?_
    refine r_seq ?_
    refine r_seq ?_
    refine r_region ?_
    refine l_x rfl (x_mv rfl) ?_
    refine l_x rfl (x_neq rfl rfl) ?_
    refine l_nil ?_
    refine r_ifd rfl (fun hc24 => ?_) (fun hc24 => ?_)
    · skip
      refine r_seq ?_
      refine r_region ?_
      refine l_x rfl (x_mv rfl) ?_
      refine l_storeq (c' := [_]) S24 2 rfl rfl rfl rfl rfl Tryz.sizeOf4 (by first | (simp; done) | exact Nat.le_of_ble_eq_true rfl) rfl ?_
      intro w26 S27 hk28
      refine l_storeq (c' := [_]) S27 3 rfl rfl rfl rfl rfl Tryz.sizeOf31 (by first | (simp; done) | exact Nat.le_of_ble_eq_true rfl) rfl ?_
      intro w29 S30 hk31
      refine l_nil ?_
      refine r_ret (rs := [.cell 10 4, .cell 11 31]) [_, _] Tryz.func46 rfl ⟨⟨_, rfl, (ld_blk (S30.blk 2 rfl) Tryz.isAgg4 rfl)⟩, ⟨_, rfl, (ld_blk (S30.blk 3 rfl) Tryz.isAgg31 rfl)⟩, trivial⟩ ?_
      exact .inl ⟨e9, hne9, rfl, he9, S30.le⟩
    exact absurd hne9 hc24
  have S32 := S14.add hl2017 hN2017
  have hbo := bench_ok hb9 hp9
  have hf60 := bench_len hb9
  refine l_x rfl (x_mv rfl) ?_
  refine l_x rfl (x_extract rfl rfl) ?_
  refine l_x rfl (x_extract rfl rfl) ?_
  refine l_alloc S32 rfl Tryz.zeroValue124 rfl ?_
  intro b36 w33 S34 hl35
  refine l_storeq (c' := [_]) S34 5 rfl rfl rfl rfl rfl Tryz.sizeOf124 (by first | (simp; done) | exact Nat.le_of_ble_eq_true rfl) rfl ?_
  intro w37 S38 hk39
  refine l_x rfl (x_as rfl) ?_
  refine l_nil ?_
  refine r_seq ?_
  refine r_seq ?_
  refine r_region ?_
  refine l_x rfl (x_mv rfl) ?_
  refine l_x rfl (x_neq rfl rfl) ?_
  refine l_nil ?_
  refine r_ifd rfl (fun hc24 => ?_) (fun hc24 => ?_)
  · exact absurd rfl hc24
  refine r_skip ?_
  refine r_seq ?_
  refine r_seq ?_
  have Sp0 := Own.pack (A := [_, _, _]) (L := [_, _]) (S38.pick (L' := [_, _, _, _, _]) [4, 5, 1, 2, 3] (by decide) rfl)
  have hl9 := Sp0.le
  have hN9 := fun wz hk => bn_of (besideRO (w1 := wz) Sp0 3 0 rfl rfl (by decide) hk)
  have hX9 := fun wz hk => Sp0.beside (w1 := wz) 3 1 rfl rfl (by decide) hk
  have hO9 := fun wz hk => Sp0.beside (w1 := wz) 3 2 rfl rfl (by decide) hk
  have hO8 := fun (wz : World) (hk : Keep (pack [blk b12 [.bool false] 4, blk b16 [.int .i64 0] 31]).fp w37 wz) => hO.le (le_over hl9 (fun b hb => (Sp0.bd 3 _ rfl b hb).2.elim id (fun h => h.elim)) hk)
  have S40 := (Sp0.lend 3 rfl).open
  refine r_region ?_
  refine l_x rfl (x_load rfl (ld_blk (hX9 _ S40.keep) Tryz.isAgg124 rfl)) ?_
  refine l_x rfl (x_func rfl rfl) ?_
  refine l_nil ?_
  refine r_block ?_
  refine r_rangeFunc [_] [] S40 rfl rfl Tryz.call112 ?_
  intro D41 l42 w43 S44 hl45
  have S46 := Own.pack (A := []) (L := [_, _, _, _]) S44
  refine (c_short bb9 vc9 vu9 vn9 cz9 (mks b day found cz9) (cnz b day found cz9) hbo.l hbo.b hbo.n hbo.c _ (pack [blk b12 [.bool false] 4, blk b16 [.int .i64 0] 31]).fp w37 hN9 (fun l r => ckS cz9 os l = false ∧ r = pack [blk b12 [.bool false] 4, blk b16 [.int .i64 0] 31, _, _] ∧ ∀ b, r.fp b → w37.heap.size ≤ b ∨ (pack [blk b12 [.bool false] 4, blk b16 [.int .i64 0] 31]).fp b) (fun s r => (s < 2 ^ cz9.length ∧ zshort cz9 (cnz b day found cz9) s = true ∧ lsP cz9 s cz9.length = os) ∧ ∃ rec, (rec.state == LoopState.busy) = false ∧ rec.pending = some .ret ∧ r = pack [blk b12 [.bool true] 4, blk b16 [.int .i64 0] 31, obj D41 (.deferred (some [])), obj l42 (.loop rec)]) ?_ _ ⟨rfl, rfl, fun b hb => (S46.bd 0 _ rfl b hb).2⟩ _ S46).mono ?_
  · skip
    rintro l9 r9 s9 w1 ⟨hn9, rfl, hfp⟩ hl9 hs9 hz9 hK hS
    have hs10 : s9 < 1024 := Nat.lt_of_lt_of_le hs9 (Nat.le_trans (Nat.pow_le_pow_right (n := 2) (by omega) hbo.l) (by decide))
    have S47 := hS.open
    refine yl_of_run (S47.obj 3 rfl) rfl (fun c cs => ?_)
    refine r_region ?_
    refine l_x rfl (x_as rfl) ?_
    refine l_nil ?_
    refine r_beginRound S47 3 rfl rfl ?_
    intro w48 S49 hk50
    refine r_block ?_
    refine r_seq ?_
    refine r_drawE 4 nob Tryz.mixed (by kernel_rfl) ?_
    intro w51 hl52
    have S53 := S49.step hl52
    refine e_exact 0 _ (by kernel_rfl) rfl rfl (by kernel_rfl) rfl (ex_x rfl (fun w1 h1 => x_load rfl (ld_blk (hX9 _ (old2 (S53.step h1) hK hfp)) Tryz.isAgg124 rfl))) ?_
    refine e_exact 1 _ (by kernel_rfl) rfl rfl (by kernel_rfl) rfl (ex_x rfl (fun w1 h1 => x_mv rfl)) ?_
    refine e_exact 3 _ (by kernel_rfl) rfl rfl (by kernel_rfl) rfl (ex_x rfl (fun w1 h1 => x_load rfl (ld_blk (hO9 _ (old2 (S53.step h1) hK hfp)) Tryz.isAgg52 rfl))) ?_
    refine e_next [2] (by kernel_rfl) (by kernel_rfl) ⟨⟨_, _, rfl, rfl, ?_⟩, trivial⟩
    refine s_callf [] [] [_, _] rfl rfl Tryz.call114 rfl ((c_benchOwners bb9 vc9 vu9 vn9 cz9 (mks b day found cz9) (cnz b day found cz9) s9 hs10 hbo.l _ (hN9 _ (old2 S53 hK hfp))).mono ?_)
    rintro v3154 w54 ⟨hN3154, hl3154⟩
    have S55 := S53.add hl3154 hN3154
    refine ⟨.of_le hl3154, ?_⟩
    refine e_done (by kernel_rfl) ?_
    refine l_call [] [] [_, _] rfl rfl Tryz.call119 rfl (c_EqualI _ (lsP cz9 s9 cz9.length) _ os (by have := ls_len (cs := cz9) (s := s9) (i := cz9.length); have := hbo.l; omega) _ (vec_rd (S55.at 4 rfl)) (hO8 _ (old2 S55 hK hfp))) ?_
    rintro _ w56 ⟨rfl, hl58⟩
    have S57 := S55.step hl58
    refine l_nil ?_
    refine r_if rfl (fun hc33 => ?_) (fun hc33 => ?_)
    · skip
      refine r_seq ?_
      refine r_region ?_
      refine l_storeq (c' := [_]) S57 0 rfl rfl rfl rfl rfl Tryz.sizeOf4 (by first | (simp; done) | exact Nat.le_of_ble_eq_true rfl) rfl ?_
      intro w59 S60 hk61
      refine l_storeq (c' := [_]) S60 1 rfl rfl rfl rfl rfl Tryz.sizeOf31 (by first | (simp; done) | exact Nat.le_of_ble_eq_true rfl) rfl ?_
      intro w62 S63 hk64
      refine l_nil ?_
      refine r_roundRet S63 3 rfl ?_
      intro w65 S66
      exact ⟨false, _, rfl, nofun, fun _ => ⟨⟨hs9, hz9, of_decide_eq_true hc33⟩, _, rfl, rfl, rfl⟩, (S66.take 4).close⟩
    refine r_skip ?_
    refine r_inBlock ?_
    refine r_roundEnd S57 3 rfl ?_
    intro w67 S68
    have hC := (S68.take 4).close
    exact ⟨true, _, rfl, fun _ => ⟨ck_snoc hn9 (of_decide_eq_false hc33), rfl, hfp⟩, nofun, hC⟩
  rintro _ w69 ⟨r9, (⟨hnil9, rfl, hfp9⟩ | ⟨s8, ⟨hs8, hz8, hls8⟩, rec9, hst9, hpe9, rfl⟩), hback70⟩
  · skip
    have S71 := Own.unpack (A := []) (L := [_, _, _, _]) hback70
    refine r_endRange S71 3 rfl rfl ?_
    intro w72 S73 hk74
    refine r_inBlock ?_
    refine r_seq ?_
    refine r_region ?_
    refine l_storeq (c' := [_]) S73 0 rfl rfl rfl rfl rfl Tryz.sizeOf4 (by first | (simp; done) | exact Nat.le_of_ble_eq_true rfl) rfl ?_
    intro w75 S76 hk77
    refine l_storeq (c' := [_]) S76 1 rfl rfl rfl rfl rfl Tryz.sizeOf31 (by first | (simp; done) | exact Nat.le_of_ble_eq_true rfl) rfl ?_
    intro w78 S79 hk80
    refine l_nil ?_
    refine r_retL rfl ?_
    refine leave_mark S79 2 rfl ?_
    intro w81 S82 hk83
    refine leave_done (rs := [.cell 10 4, .cell 11 31]) [_, _] Tryz.func46 rfl ⟨⟨_, rfl, (ld_blk (S82.blk 0 rfl) Tryz.isAgg4 rfl)⟩, ⟨_, rfl, (ld_blk (S82.blk 1 rfl) Tryz.isAgg31 rfl)⟩, trivial⟩ ?_
    have h9 := Own.le (Sp0.back 3 rfl (S82.take 2).close)
    exact .inr ⟨cz9, hb9, hp9, hs9, congrArg (fun q => Value.tuple #[.bool q, .int .i64 0]) (hnil9.symm), h9⟩
  have S84 := Own.unpack (A := []) (L := [_, _, _, _]) hback70
  refine r_endRange S84 3 rfl hst9 ?_
  intro w85 S86 hk87
  rw [hpe9]
  change Run _ _ _ _ _ (.code .ret :: _) _ _ _
  refine r_retL rfl ?_
  refine leave_mark S86 2 rfl ?_
  intro w88 S89 hk90
  refine leave_done (rs := [.cell 10 4, .cell 11 31]) [_, _] Tryz.func46 rfl ⟨⟨_, rfl, (ld_blk (S89.blk 0 rfl) Tryz.isAgg4 rfl)⟩, ⟨_, rfl, (ld_blk (S89.blk 1 rfl) Tryz.isAgg31 rfl)⟩, trivial⟩ ?_
  have h9 := Own.le (Sp0.back 3 rfl (S89.take 2).close)
  exact .inr ⟨cz9, hb9, hp9, hs9, congrArg (fun q => Value.tuple #[.bool q, .int .i64 0]) (ck_yes hs8 hz8 hls8), h9⟩

end Go.Proofs

/-
  Contracts of functions of the program: each by symbolic execution of its text.
-/
namespace Go.Proofs
open Go Go.Vk Go.Vk.Flow

open Go.Vk.Mark
open Go.Vk.Deed (i64 rng rng_iff owners sumI sumI_cons sumI_snoc)
open Go.Vk.Deed (cmpI)

section
variable {b : Sm} {day : Int} {found : List Sg} {cs9 cz : List Clm}
theorem bench_same (hb : beginE b day true found cs9 = 0) (hp : cz.Perm cs9) : Same9 cz cz := ⟨apart_perm hp (begin_apart hb), rfl⟩
theorem bench_lt : ∀ q ∈ mks b day found cz, q < 2 ^ cz.length := fun q hq => by
  obtain ⟨t, _, rfl⟩ := List.mem_map.1 hq
  exact msk_lt
theorem bench_own (hb : beginE b day true found cs9 = 0) (hp : cz.Perm cs9) : ∀ c ∈ cz, c.owner ≠ 0 := fun c hc => by
  have := (claim_ok (begin_parts hb).2.2).2.1 c (hp.mem_iff.1 hc)
  unfold claimB ownB at this
  rw [Bool.and_eq_true, Go.Vk.Deed.rng_iff] at this
  omega
theorem bench_met (hb : beginE b day true found cs9 = 0) (hp : cz.Perm cs9) {os : List Int} (h : meetsM os (mks b day found cz) cz = true) : canB cz (cnz b day found cz) = true := by
  unfold meetsM at h
  rw [Bool.and_eq_true, decide_eq_true_eq] at h
  cases e : meetF (os.zip (mks b day found cz)) cz with
  | none => rw [e] at h; cases h.2
  | some c =>
    rw [e] at h
    have h1 := met_of_meet _ cz c (bench_same hb hp) e h.2
    rw [show (os.zip (mks b day found cz)).map (·.2) = mks b day found cz from List.map_snd_zip (by omega)] at h1
    exact ((bench_same hb hp).can bench_lt).2 h1
theorem bench_asg (hb : beginE b day true found cs9 = 0) (hp : cz.Perm cs9) (h : canB cz (cnz b day found cz) = true) : meetsM (asg (mks b day found cz) cz (cnz b day found cz)) (mks b day found cz) cz = true := by
  unfold meetsM
  rw [decide_eq_true (asg_len _ _ _), Bool.true_and]
  exact asg_meets _ cz (bench_same hb hp) (bench_own hb hp) (bench_ok hb hp).b bench_lt (((bench_same hb hp).can bench_lt).1 h)
theorem can_nil {cn : List Int} (h : canB cz cn = true) : shP cz cn (2 ^ cz.length) = [] := List.isEmpty_iff.1 h
theorem can_ck {cn : List Int} {os : List Int} (h : canB cz cn = true) : ckS cz os (shP cz cn (2 ^ cz.length)) = false := by rw [can_nil h]; rfl
theorem can_best {cn : List Int} (h : canB cz cn = true) : bestS cz (shP cz cn (2 ^ cz.length)) = none := by rw [can_nil h]; rfl
theorem not_best {cn : List Int} (h : canB cz cn = false) : (bestS cz (shP cz cn (2 ^ cz.length))).isSome = true := by
  rw [best_is]; unfold canB at h; rw [h]; rfl
theorem best_ck {cn : List Int} (h : canB cz cn = false) : ckS cz ((bestS cz (shP cz cn (2 ^ cz.length))).getD []) (shP cz cn (2 ^ cz.length)) = true := by
  obtain ⟨x, hx⟩ := Option.isSome_iff_exists.1 (not_best h)
  obtain ⟨s, hs, e⟩ := best_some hx
  rw [hx]
  exact List.any_eq_true.2 ⟨s, hs, decide_eq_true e⟩
end
theorem c_ShortageE (b : Sm) (vm vf : Value) (day : Int) (found : List Sg) (vs : Value) (cs9 : List Clm) (vq : Value) (hm : found.length ≤ 9223372036854775807) (hmc : cs9.length ≤ 9223372036854775807) (hsg : ∀ t ∈ found, SgOk t) (e : Int) (hn : e ≠ 0) (he : e = beginE b day true found cs9) (w : World) (hB : SmR 39 41 w vm vf b) (hF : Rd ESG w vs found) (hC : Rd ECL w vq cs9) : Cl Tryz.prog 44 #[.agg #[vm, vf], Value.int .i64 day, vs, vq] w fun v w' => v = .tuple #[.slice none 0 0, .bool false, .int .i64 e] ∧ Le w w' :=
  (c_Shortage b vm vf day found vs cs9 vq hm hmc hsg w hB hF hC).mono fun v w' h => by
    rcases h with ⟨e', _, rfl, he', hl⟩ | ⟨cz, s, is, hb, _⟩
    · rw [← he] at he'; subst he'; exact ⟨rfl, hl⟩
    exact absurd (he.trans hb) hn
theorem c_ShortageT (b : Sm) (vm vf : Value) (day : Int) (found : List Sg) (vs : Value) (cs9 : List Clm) (vq : Value) (hm : found.length ≤ 9223372036854775807) (hmc : cs9.length ≤ 9223372036854775807) (hsg : ∀ t ∈ found, SgOk t) (cz : List Clm) (hb : beginE b day true found cs9 = 0) (hp : cz.Perm cs9) (hs : SortedL (fun x y : Clm => cmpI x.owner y.owner) cz) (hc : canB cz (cnz b day found cz) = true) (w : World) (hB : SmR 39 41 w vm vf b) (hF : Rd ESG w vs found) (hC : Rd ECL w vq cs9) : Cl Tryz.prog 44 #[.agg #[vm, vf], Value.int .i64 day, vs, vq] w fun v w' => ∃ s, v = .tuple #[s, .bool false, .int .i64 0] ∧ New w w' (vec EI s []) ∧ Le w w' :=
  (c_Shortage b vm vf day found vs cs9 vq hm hmc hsg w hB hF hC).mono fun v w' h => by
    rcases h with ⟨e', hn, rfl, he', hl⟩ | ⟨cz', s, is, hb', hp', hs', rfl, his, hN, hl⟩
    · exact absurd (he'.trans hb) hn
    have e := one_cz hb hp hs hp' hs'
    subst e
    rw [can_best hc] at his hN
    subst his
    exact ⟨s, rfl, hN, hl⟩
theorem c_ShortageF (b : Sm) (vm vf : Value) (day : Int) (found : List Sg) (vs : Value) (cs9 : List Clm) (vq : Value) (hm : found.length ≤ 9223372036854775807) (hmc : cs9.length ≤ 9223372036854775807) (hsg : ∀ t ∈ found, SgOk t) (cz : List Clm) (hb : beginE b day true found cs9 = 0) (hp : cz.Perm cs9) (hs : SortedL (fun x y : Clm => cmpI x.owner y.owner) cz) (hc : canB cz (cnz b day found cz) = false) (w : World) (hB : SmR 39 41 w vm vf b) (hF : Rd ESG w vs found) (hC : Rd ECL w vq cs9) : Cl Tryz.prog 44 #[.agg #[vm, vf], Value.int .i64 day, vs, vq] w fun v w' => ∃ s, v = .tuple #[s, .bool true, .int .i64 0] ∧ New w w' (vec EI s ((bestS cz (shP cz (cnz b day found cz) (2 ^ cz.length))).getD [])) ∧ Le w w' :=
  (c_Shortage b vm vf day found vs cs9 vq hm hmc hsg w hB hF hC).mono fun v w' h => by
    rcases h with ⟨e', hn, rfl, he', hl⟩ | ⟨cz', s, is, hb', hp', hs', rfl, his, hN, hl⟩
    · exact absurd (he'.trans hb) hn
    have e := one_cz hb hp hs hp' hs'
    subst e
    rw [not_best hc] at his
    subst his
    exact ⟨s, rfl, hN, hl⟩
theorem c_MeetsE (b : Sm) (vm vf : Value) (day : Int) (found : List Sg) (vs : Value) (cs9 : List Clm) (vq : Value) (hm : found.length ≤ 9223372036854775807) (hmc : cs9.length ≤ 9223372036854775807) (hsg : ∀ t ∈ found, SgOk t) (e : Int) (hn : e ≠ 0) (he : e = beginE b day true found cs9) (os : List Int) (vo : Value)  (w : World) (hB : SmR 39 41 w vm vf b) (hF : Rd ESG w vs found) (hC : Rd ECL w vq cs9) (hO : Rd EI w vo os) : Cl Tryz.prog 29 #[.agg #[vm, vf], Value.int .i64 day, vs, vq, vo] w fun v w' => v = .tuple #[.bool false, .int .i64 e] ∧ Le w w' :=
  (c_Meets b vm vf day found vs cs9 vq hm hmc hsg os vo w hB hF hC hO).mono fun v w' h => by
    rcases h with ⟨e', _, rfl, he', hl⟩ | ⟨cz, hb, _⟩
    · rw [← he] at he'; subst he'; exact ⟨rfl, hl⟩
    exact absurd (he.trans hb) hn
theorem c_MeetsK (b : Sm) (vm vf : Value) (day : Int) (found : List Sg) (vs : Value) (cs9 : List Clm) (vq : Value) (hm : found.length ≤ 9223372036854775807) (hmc : cs9.length ≤ 9223372036854775807) (hsg : ∀ t ∈ found, SgOk t) (cz : List Clm) (hb : beginE b day true found cs9 = 0) (hp : cz.Perm cs9) (hs : SortedL (fun x y : Clm => cmpI x.owner y.owner) cz) (os : List Int) (vo : Value)  (w : World) (hB : SmR 39 41 w vm vf b) (hF : Rd ESG w vs found) (hC : Rd ECL w vq cs9) (hO : Rd EI w vo os) : Cl Tryz.prog 29 #[.agg #[vm, vf], Value.int .i64 day, vs, vq, vo] w fun v w' => v = .tuple #[.bool (meetsM os (mks b day found cz) cz), .int .i64 0] ∧ Le w w' :=
  (c_Meets b vm vf day found vs cs9 vq hm hmc hsg os vo w hB hF hC hO).mono fun v w' h => by
    rcases h with ⟨e', hn, rfl, he', hl⟩ | ⟨cz', hb', hp', hs', rfl, hl⟩
    · exact absurd (he'.trans hb) hn
    have e := one_cz hb hp hs hp' hs'
    subst e
    exact ⟨rfl, hl⟩
theorem c_MeetsF (b : Sm) (vm vf : Value) (day : Int) (found : List Sg) (vs : Value) (cs9 : List Clm) (vq : Value) (hm : found.length ≤ 9223372036854775807) (hmc : cs9.length ≤ 9223372036854775807) (hsg : ∀ t ∈ found, SgOk t) (cz : List Clm) (hb : beginE b day true found cs9 = 0) (hp : cz.Perm cs9) (hs : SortedL (fun x y : Clm => cmpI x.owner y.owner) cz) (hc : canB cz (cnz b day found cz) = false) (os : List Int) (vo : Value)  (w : World) (hB : SmR 39 41 w vm vf b) (hF : Rd ESG w vs found) (hC : Rd ECL w vq cs9) (hO : Rd EI w vo os) : Cl Tryz.prog 29 #[.agg #[vm, vf], Value.int .i64 day, vs, vq, vo] w fun v w' => v = .tuple #[.bool false, .int .i64 0] ∧ Le w w' :=
  (c_MeetsK b vm vf day found vs cs9 vq hm hmc hsg cz hb hp hs os vo w hB hF hC hO).mono fun v w' h => by
    have e : meetsM os (mks b day found cz) cz = false := by
      cases e : meetsM os (mks b day found cz) cz with
      | false => rfl
      | true => rw [bench_met hb hp e] at hc; cases hc
    rw [e] at h; exact h
theorem c_MeetsA (b : Sm) (vm vf : Value) (day : Int) (found : List Sg) (vs : Value) (cs9 : List Clm) (vq : Value) (hm : found.length ≤ 9223372036854775807) (hmc : cs9.length ≤ 9223372036854775807) (hsg : ∀ t ∈ found, SgOk t) (cz : List Clm) (hb : beginE b day true found cs9 = 0) (hp : cz.Perm cs9) (hs : SortedL (fun x y : Clm => cmpI x.owner y.owner) cz) (hc : canB cz (cnz b day found cz) = true) (vo : Value) (w : World) (hB : SmR 39 41 w vm vf b) (hF : Rd ESG w vs found) (hC : Rd ECL w vq cs9) (hO : Rd EI w vo (asg (mks b day found cz) cz (cnz b day found cz))) : Cl Tryz.prog 29 #[.agg #[vm, vf], Value.int .i64 day, vs, vq, vo] w fun v w' => v = .tuple #[.bool true, .int .i64 0] ∧ Le w w' :=
  (c_MeetsK b vm vf day found vs cs9 vq hm hmc hsg cz hb hp hs _ vo w hB hF hC hO).mono fun v w' h => by rw [bench_asg hb hp hc] at h; exact h
theorem c_CheckE (b : Sm) (vm vf : Value) (day : Int) (found : List Sg) (vs : Value) (cs9 : List Clm) (vq : Value) (hm : found.length ≤ 9223372036854775807) (hmc : cs9.length ≤ 9223372036854775807) (hsg : ∀ t ∈ found, SgOk t) (e : Int) (hn : e ≠ 0) (he : e = beginE b day true found cs9) (os : List Int) (vo : Value)  (w : World) (hB : SmR 39 41 w vm vf b) (hF : Rd ESG w vs found) (hC : Rd ECL w vq cs9) (hO : Rd EI w vo os) : Cl Tryz.prog 46 #[.agg #[vm, vf], Value.int .i64 day, vs, vq, vo] w fun v w' => v = .tuple #[.bool false, .int .i64 e] ∧ Le w w' :=
  (c_CheckShortage b vm vf day found vs cs9 vq hm hmc hsg os vo w hB hF hC hO).mono fun v w' h => by
    rcases h with ⟨e', _, rfl, he', hl⟩ | ⟨cz, hb, _⟩
    · rw [← he] at he'; subst he'; exact ⟨rfl, hl⟩
    exact absurd (he.trans hb) hn
theorem c_CheckK (b : Sm) (vm vf : Value) (day : Int) (found : List Sg) (vs : Value) (cs9 : List Clm) (vq : Value) (hm : found.length ≤ 9223372036854775807) (hmc : cs9.length ≤ 9223372036854775807) (hsg : ∀ t ∈ found, SgOk t) (cz : List Clm) (hb : beginE b day true found cs9 = 0) (hp : cz.Perm cs9) (hs : SortedL (fun x y : Clm => cmpI x.owner y.owner) cz) (os : List Int) (vo : Value)  (w : World) (hB : SmR 39 41 w vm vf b) (hF : Rd ESG w vs found) (hC : Rd ECL w vq cs9) (hO : Rd EI w vo os) : Cl Tryz.prog 46 #[.agg #[vm, vf], Value.int .i64 day, vs, vq, vo] w fun v w' => v = .tuple #[.bool (ckS cz os (shP cz (cnz b day found cz) (2 ^ cz.length))), .int .i64 0] ∧ Le w w' :=
  (c_CheckShortage b vm vf day found vs cs9 vq hm hmc hsg os vo w hB hF hC hO).mono fun v w' h => by
    rcases h with ⟨e', hn, rfl, he', hl⟩ | ⟨cz', hb', hp', hs', rfl, hl⟩
    · exact absurd (he'.trans hb) hn
    have e := one_cz hb hp hs hp' hs'
    subst e
    exact ⟨rfl, hl⟩
theorem c_CheckT (b : Sm) (vm vf : Value) (day : Int) (found : List Sg) (vs : Value) (cs9 : List Clm) (vq : Value) (hm : found.length ≤ 9223372036854775807) (hmc : cs9.length ≤ 9223372036854775807) (hsg : ∀ t ∈ found, SgOk t) (cz : List Clm) (hb : beginE b day true found cs9 = 0) (hp : cz.Perm cs9) (hs : SortedL (fun x y : Clm => cmpI x.owner y.owner) cz) (hc : canB cz (cnz b day found cz) = true) (os : List Int) (vo : Value)  (w : World) (hB : SmR 39 41 w vm vf b) (hF : Rd ESG w vs found) (hC : Rd ECL w vq cs9) (hO : Rd EI w vo os) : Cl Tryz.prog 46 #[.agg #[vm, vf], Value.int .i64 day, vs, vq, vo] w fun v w' => v = .tuple #[.bool false, .int .i64 0] ∧ Le w w' :=
  (c_CheckK b vm vf day found vs cs9 vq hm hmc hsg cz hb hp hs os vo w hB hF hC hO).mono fun v w' h => by rw [can_ck hc] at h; exact h
theorem c_CheckB (b : Sm) (vm vf : Value) (day : Int) (found : List Sg) (vs : Value) (cs9 : List Clm) (vq : Value) (hm : found.length ≤ 9223372036854775807) (hmc : cs9.length ≤ 9223372036854775807) (hsg : ∀ t ∈ found, SgOk t) (cz : List Clm) (hb : beginE b day true found cs9 = 0) (hp : cz.Perm cs9) (hs : SortedL (fun x y : Clm => cmpI x.owner y.owner) cz) (hc : canB cz (cnz b day found cz) = false) (vo : Value) (w : World) (hB : SmR 39 41 w vm vf b) (hF : Rd ESG w vs found) (hC : Rd ECL w vq cs9) (hO : Rd EI w vo ((bestS cz (shP cz (cnz b day found cz) (2 ^ cz.length))).getD [])) : Cl Tryz.prog 46 #[.agg #[vm, vf], Value.int .i64 day, vs, vq, vo] w fun v w' => v = .tuple #[.bool true, .int .i64 0] ∧ Le w w' :=
  (c_CheckK b vm vf day found vs cs9 vq hm hmc hsg cz hb hp hs _ vo w hB hF hC hO).mono fun v w' h => by rw [best_ck hc] at h; exact h

end Go.Proofs
