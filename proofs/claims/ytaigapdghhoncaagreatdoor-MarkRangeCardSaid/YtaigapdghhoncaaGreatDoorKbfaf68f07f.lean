/- Texts joined for claims: M29, M30, G11. -/
import Derived.Test.YtaigapdghhoncaaGreatDoorKcac6ed5128
import Derived.Test.YtaigapdghhoncaaGreatDoorKa9d30d5665
import Derived.Test.YtaigapdghhoncaaGreatDoorK19644418ce
import Derived.Test.YtaigapdghhoncaaGreatDoorKccd4a20025
set_option linter.unusedVariables false
set_option linter.unusedSimpArgs false
set_option linter.unusedSectionVars false
/-
  Contracts of functions of the program: each by symbolic execution of its text.
-/
namespace Go.Proofs
open Go Go.Vk Go.Vk.Flow

open Go.Vk.Mark
open Go.Vk.Deed (i64 rng rng_iff owners sumI sumI_cons sumI_snoc)
open Go.Vk.Deed (cmpI)

set_option maxHeartbeats 2000000 in
/-- slices.DeleteFunc[[]couchant/api.Claim,couchant/api.Claim]. -/
theorem c_DeleteFuncC (v0 : Value) (l : List Clm) (p : Clm → Bool) (kf : Nat) (caps : List Value) (hmx : l.length ≤ 9223372036854775807) (w : World) (he : ∀ args w, (callFunc kf args).run Tryz.prog w = .ok (.enter kf args) w)
    (hf : ∀ x ∈ l, ∀ w1, Keep (vec ECL v0 l).fp w w1 → Cl Tryz.prog kf ([Value.agg (encCl x).toArray] ++ caps).toArray w1 fun v w2 => v = .bool (p x) ∧ Le w1 w2) (S : Own (vec ECL v0 l).fp w w [vec ECL v0 l]) :
    Cl Tryz.prog 120 #[v0, .func (.func kf) #[] caps.toArray] w fun v w' => Own (vec ECL v0 l).fp w w' [vec ECL v (l.filter fun x => !p x)] := by
  refine fn_of_run (args := [_, _]) 42 Tryz.func120 rfl rfl rfl fun cs => ?_
  refine r_seq ?_
  refine r_region ?_
  refine l_x rfl (x_as rfl) ?_
  refine l_nil ?_
  refine r_seq ?_
  refine r_region ?_
  refine l_x rfl (x_mv rfl) ?_
  refine l_x rfl (x_mv rfl) ?_
  refine l_call [] [] [_, _] rfl rfl Tryz.call166 rfl (c_IndexFuncC _ l p kf caps hmx _ (vec_rd (S.at 0 rfl)) he (fun x hx w1 h1 => hf x hx w1 (S.keep.trans (.of_le h1)))) ?_
  rintro _ w1 ⟨rfl, hl3⟩
  have S2 := S.step hl3
  refine l_x rfl (x_as rfl) ?_
  refine l_nil ?_
  refine r_seq ?_
  refine r_seq ?_
  refine r_region ?_
  refine l_x rfl (x_mv rfl) ?_
  refine l_x rfl (x_eql rfl rfl) ?_
  refine l_nil ?_
  refine r_ifd rfl (fun hc12 => ?_) (fun hc12 => ?_)
  · skip
    refine r_seq ?_
    refine r_region ?_
    refine l_x rfl (x_mv rfl) ?_
    refine l_x rfl (x_as rfl) ?_
    refine l_nil ?_
    refine r_ret (rs := [.tmp 4]) [_] Tryz.func120 rfl ⟨rfl, trivial⟩ ?_
    rw [List.filter_eq_self.2 fun x hx => by simp [idx_neg hc12 x hx]]
    exact S2
  refine r_skip ?_
  refine r_seq ?_
  refine r_seq ?_
  obtain ⟨i0, a0, hi0, ha0, hp0, hn0⟩ := idx_pos hc12
  have hi0l := (List.getElem?_eq_some_iff.1 ha0).1
  refine r_slot 5 (.int .i64 (i0 : Int)) (congrArg (Value.int .i64) hi0) ?_
  refine r_region ?_
  refine l_x rfl (x_mv rfl) ?_
  refine l_x rfl (x_add rfl rfl (by omega)) ?_
  refine l_x rfl (x_as rfl) ?_
  refine l_nil ?_
  refine r_block ?_
  refine r_loop (G := Nat × Nat × List Clm) (fun ⟨i, j, l1⟩ => l.length - j) (fun ⟨i, j, l1⟩ => [(0, v0), (1, .func (.func kf) #[] caps.toArray), (5, .int .i64 i), (6, .int .i64 j)]) (fun ⟨i, j, l1⟩ w' => (DelInv p l l1 i j) ∧ Own (vec ECL v0 l).fp w w' [vec ECL v0 l1]) (i0, i0 + 1, l) ⟨rfl, rfl, rfl, rfl, trivial⟩ ⟨DelInv.start ha0 hp0 hn0, (S2.take 1)⟩ ?_
  rintro ⟨i, j, l1⟩ ρ w1 ⟨hI, S1⟩ IH
  refine r_seq ?_
  refine r_seq ?_
  refine r_region ?_
  refine l_x rfl (x_mv rfl) ?_
  refine l_x rfl (x_mv rfl) ?_
  refine l_x rfl (x_len (vec_rd (S1.at 0 rfl)) rfl Tryz.runUnderlying51) ?_
  refine l_x rfl (x_lss rfl rfl) ?_
  refine l_nil ?_
  refine r_ifd rfl (fun hc19 => ?_) (fun hc19 => ?_)
  · skip
    have hlen := hI.len
    have hle := hI.le
    obtain ⟨a, ha⟩ : ∃ a, l[j]? = some a := ⟨_, List.getElem?_eq_getElem (by omega)⟩
    have ha1 := hI.at ha
    obtain ⟨k1, hk1⟩ : ∃ a, l1[i]? = some a := ⟨_, List.getElem?_eq_getElem (by omega)⟩
    refine r_skip ?_
    refine r_seq ?_
    refine r_block ?_
    refine r_seq ?_
    refine r_region ?_
    refine l_x rfl (x_mv rfl) ?_
    refine l_x rfl (x_mv rfl) ?_
    refine l_index ECL rfl (vec_rd (S1.at 0 rfl)) rfl rfl Tryz.runUnderlying51 Tryz.sizeOf83 (by omega) ha1 ?_
    intro b4 o5 hat6 row7
    refine l_x rfl (x_load rfl (ld_row Tryz.isAgg83 Tryz.sizeOf83 rfl row7)) ?_
    refine l_alloc S1 rfl Tryz.zeroValue83 rfl ?_
    intro b11 w8 S9 hl10
    refine l_stores S9 1 rfl rfl rfl rfl (ECL.one _) Tryz.sizeOf83 (by first | exact Nat.le_refl _ | simp) (splice_all rfl) ?_
    intro w12 S13 hk14
    refine l_nil ?_
    refine r_seq ?_
    refine r_region ?_
    refine l_x rfl (x_mv rfl) ?_
    refine l_x rfl (x_load rfl (ld_blks (S13.blk 1 rfl) Tryz.isAgg83 Tryz.sizeOf83 rfl rfl)) ?_
    refine l_call [] caps ([_] ++ caps) rfl rfl he rfl (hf _ (List.mem_of_getElem? ha) _ S13.keep) ?_
    rintro _ w15 ⟨rfl, hl17⟩
    have S16 := S13.step hl17
    refine l_x rfl (x_not rfl) ?_
    refine l_nil ?_
    refine r_if rfl (fun hc29 => ?_) (fun hc29 => ?_)
    · skip
      have hc29 : p a = false := by simpa using hc29
      refine r_seq ?_
      refine r_region ?_
      refine l_x rfl (x_mv rfl) ?_
      refine l_x rfl (x_mv rfl) ?_
      refine l_x rfl (x_load rfl (ld_blks (S16.blk 1 rfl) Tryz.isAgg83 Tryz.sizeOf83 rfl rfl)) ?_
      refine l_index ECL rfl (vec_rd (S16.at 0 rfl)) rfl rfl Tryz.runUnderlying51 Tryz.sizeOf83 (by omega) hk1 ?_
      intro b18 o19 hat20 row21
      refine l_storeva (a' := a) S16 0 rfl rfl hat20 rfl rfl Tryz.sizeOf83 hk1 rfl ?_
      intro w22 S23 hk24
      refine l_nil ?_
      refine r_region ?_
      refine l_x rfl (x_mv rfl) ?_
      refine l_x rfl (x_add rfl rfl (by omega)) ?_
      refine l_x rfl (x_as rfl) ?_
      refine l_nil ?_
      refine r_inBlock ?_
      refine r_region ?_
      refine l_x rfl (x_mv rfl) ?_
      refine l_x rfl (x_add rfl rfl (by omega)) ?_
      refine l_x rfl (x_as rfl) ?_
      refine l_nil ?_
      exact IH (i + 1, j + 1, l1.set i a) _ _ (by dsimp only; omega) ⟨rfl, rfl, rfl, rfl, trivial⟩ ⟨hI.keep ha hc29, (S23.take 1)⟩
    have hc29 : p a = true := by simpa using hc29
    refine r_skip ?_
    refine r_inBlock ?_
    refine r_region ?_
    refine l_x rfl (x_mv rfl) ?_
    refine l_x rfl (x_add rfl rfl (by omega)) ?_
    refine l_x rfl (x_as rfl) ?_
    refine l_nil ?_
    exact IH (i, j + 1, l1) _ _ (by dsimp only; omega) ⟨rfl, rfl, rfl, rfl, trivial⟩ ⟨hI.drop ha hc29, (S16.take 1)⟩
  have hlen := hI.len
  have hle := hI.le
  have hj : j = l.length := by have := hI.lej; omega
  subst hj
  refine r_exit rfl ?_
  refine r_seq ?_
  refine r_region ?_
  refine l_x rfl (x_mv rfl) ?_
  refine l_x rfl (x_mv rfl) ?_
  refine l_tail S1 0 rfl rfl rfl rfl Tryz.runUnderlying51 Tryz.sizeOf83 (by omega) ?_
  intro v25 ht26
  refine l_clearN (a0 := ⟨0, 0⟩) S1 0 rfl rfl ht26 rfl Tryz.runUnderlying51 Tryz.zeroValue83 rfl ?_
  intro w27 S28 hk29
  refine l_nil ?_
  refine r_seq ?_
  refine r_region ?_
  refine l_x rfl (x_mv rfl) ?_
  refine l_x rfl (x_mv rfl) ?_
  refine l_prefix S28 0 rfl rfl rfl rfl Tryz.runUnderlying51 Tryz.sizeOf83 (by rw [List.length_append, List.length_take, List.length_replicate]; omega) ?_
  intro v30 S31
  refine l_x rfl (x_as rfl) ?_
  refine l_nil ?_
  refine r_ret (rs := [.tmp 4]) [_] Tryz.func120 rfl ⟨rfl, trivial⟩ ?_
  have hS := S31.take 1
  rw [Int.toNat_natCast, List.take_append_of_le_length (by rw [List.length_take]; omega), List.take_take, Nat.min_self, hI.done] at hS
  exact hS

/-- slices.Clone[[]couchant/api.Claim,couchant/api.Claim]. -/
theorem c_CloneC (va : Value) (l : List Clm) (hm : l.length ≤ 100000) (w : World) (hL : Rd ECL w va l) :
    Cl Tryz.prog 121 #[va] w fun v w' => New w w' (vec ECL v l) ∧ Le w w' := by
  refine fn_of_run (args := [_]) 8 Tryz.func121 rfl rfl rfl fun cs => ?_
  have S := Own.start (X := nob) w
  refine r_seq ?_
  refine r_region ?_
  refine l_x rfl (x_as rfl) ?_
  refine l_nil ?_
  refine r_seq ?_
  refine r_seq ?_
  refine r_region ?_
  refine l_x rfl (x_mv rfl) ?_
  refine l_nilsl (hL.le S.le) rfl rfl rfl Tryz.runUnderlying51 (fun t1 hnil4 => ?_)
  refine l_nil ?_
  refine r_if rfl (fun hc4 => ?_) (fun hc4 => ?_)
  · skip
    refine r_seq ?_
    refine r_region ?_
    refine l_x rfl (x_as rfl) ?_
    refine l_nil ?_
    refine r_ret (rs := [.tmp 2]) [_] Tryz.func121 rfl ⟨rfl, trivial⟩ ?_
    exact ⟨by rw [hnil4 hc4]; exact New.nilvec .., S.le⟩
  refine r_skip ?_
  refine r_seq ?_
  refine r_region ?_
  refine l_buildSlice ECL [] S rfl Tryz.runUnderlying51 Tryz.sizeOf83 Tryz.zeroValue83 rfl trivial (Nat.le_of_ble_eq_true rfl) ?_
  intro v5 w2 S3 hl4
  refine l_x rfl (x_mv rfl) ?_
  refine l_append ECL S3 0 rfl rfl rfl rfl (hL.le S3.le) Tryz.underlying51 info83 rfl rfl rfl (by unfold maxLen; rw [List.length_nil]; omega) (by rw [List.length_nil]; show _ * 16 ≤ _; omega) ?_
  intro v9 w6 S7 hk8 hv10
  refine l_x rfl (x_as rfl) ?_
  refine l_nil ?_
  refine r_ret (rs := [.tmp 2]) [_] Tryz.func121 rfl ⟨rfl, trivial⟩ ?_
  exact ⟨S7.new 0 rfl, S7.le⟩

/-- couchant/mark.Most$1. -/
theorem c_most1 (a : Clm) (o : Int) (bo : Nat) (w : World) (ho : Blk w bo [Value.int .i64 o] 3) :
    Cl Tryz.prog 122 #[Value.agg (encCl a).toArray, .pointer (some ⟨bo, 0, none⟩)] w fun v w' => v = .bool (decide (a.owner = o)) ∧ Le w w' := by
  refine fn_of_run (args := [_, _]) 8 Tryz.func122 rfl rfl rfl fun cs => ?_
  have S := Own.start (X := nob) w
  refine r_seq ?_
  refine r_region ?_
  refine l_box S rfl rfl ?_
  intro b4 w1 S2 hl3
  refine l_x rfl (x_as rfl) ?_
  refine l_nil ?_
  refine r_seq ?_
  refine r_region ?_
  refine l_x rfl (x_fieldAddr rfl Tryz.runUnderlying83 rfl Tryz.sizeOf3 (by decide)) ?_
  refine l_x rfl (x_load rfl (ld_blk (S2.blk 0 rfl) Tryz.isAgg3 rfl)) ?_
  refine l_x rfl (x_load rfl (ld_blk (ho.keep S2.le id) Tryz.isAgg3 rfl)) ?_
  refine l_x rfl (x_eql rfl rfl) ?_
  refine l_x rfl (x_as rfl) ?_
  refine l_nil ?_
  refine r_ret (rs := [.tmp 3]) [_] Tryz.func122 rfl ⟨rfl, trivial⟩ ?_
  exact ⟨rfl, S2.le⟩

end Go.Proofs

/-
  Contracts of functions of the program: each by symbolic execution of its text.
-/
namespace Go.Proofs
open Go Go.Vk Go.Vk.Flow

open Go.Vk.Mark
open Go.Vk.Deed (i64 rng rng_iff owners sumI sumI_cons sumI_snoc)
open Go.Vk.Deed (cmpI)

theorem bench_len9 {b : Sm} {day : Int} {r : Bool} {found : List Sg} {cs : List Clm} (h : beginE b day r found cs = 0) : found.length ≤ 60 := (found_ok (begin_parts h).2.1).1

theorem most_step {P : Nat → Bool} {n i k : Nat} (h : ∀ q : Nat, n < q + i → q ≤ n → P q = false) (_hk : k ≤ n) (hki : (n : Int) - i = k) (hp : P k = false) : ∀ q : Nat, n < q + (i + 1) → q ≤ n → P q = false := fun q h1 h2 => by
  by_cases e : q = k
  · subst e; exact hp
  exact h q (by omega) h2

set_option maxHeartbeats 4000000 in
/-- couchant/mark.Most. -/
theorem c_Most (b : Sm) (vm vf : Value) (day : Int) (found : List Sg) (vs : Value) (cs9 : List Clm) (vq : Value) (hm : found.length ≤ 9223372036854775807) (hmc : cs9.length ≤ 9223372036854775807) (hsg : ∀ t ∈ found, SgOk t) (o : Int) (w : World) (hB : SmR 39 41 w vm vf b) (hF : Rd ESG w vs found) (hC : Rd ECL w vq cs9) :
    Cl Tryz.prog 51 #[.agg #[vm, vf], Value.int .i64 day, vs, vq, Value.int .i64 o] w fun v w' => (∃ e, e ≠ 0 ∧ v = .tuple #[.int .i64 0, .int .i64 e] ∧ e = beginE b day (ownB o) found cs9 ∧ Le w w') ∨ (beginE b day (ownB o) found cs9 = 0 ∧ (oth9 cs9 o).length = 10 ∧ v = .tuple #[.int .i64 0, .int .i64 2] ∧ Le w w') ∨ (∃ n : Nat, beginE b day (ownB o) found cs9 = 0 ∧ (oth9 cs9 o).length ≠ 10 ∧ n ≤ found.length ∧ mostP b day found cs9 o n = true ∧ (∀ q : Nat, n < q → q ≤ found.length → mostP b day found cs9 o q = false) ∧ v = .tuple #[.int .i64 n, .int .i64 0] ∧ Le w w') ∨ (beginE b day (ownB o) found cs9 = 0 ∧ (oth9 cs9 o).length ≠ 10 ∧ (∀ q : Nat, q ≤ found.length → mostP b day found cs9 o q = false) ∧ v = .tuple #[.int .i64 0, .int .i64 30] ∧ Le w w') := by
  refine fn_of_run (args := [_, _, _, _, _]) 64 Tryz.func51 rfl rfl rfl fun cs => ?_
  have S := Own.start (X := nob) w
  refine r_seq ?_
  refine r_region ?_
  refine l_box S rfl rfl ?_
  intro b4 w1 S2 hl3
  refine l_box S2 rfl rfl ?_
  intro b8 w5 S6 hl7
  refine l_x rfl (x_as rfl) ?_
  refine l_x rfl (x_as rfl) ?_
  refine l_nil ?_
  refine r_seq ?_
  refine r_seq ?_
  refine r_drawE 11 nob Tryz.mixed (by kernel_rfl) ?_
  intro w9 hl10
  have S11 := S6.step hl10
  refine e_exact 0 _ (by kernel_rfl) rfl rfl (by kernel_rfl) rfl (ex_x rfl (fun w1 h1 => x_load rfl (ld_blks ((S11.step h1).blk 0 rfl) Tryz.isAgg25 Tryz.sizeOf25 rfl rfl))) ?_
  refine e_exact 1 _ (by kernel_rfl) rfl rfl (by kernel_rfl) rfl (ex_x rfl (fun w1 h1 => x_mv rfl)) ?_
  refine e_exact 2 _ (by kernel_rfl) rfl rfl (by kernel_rfl) rfl (ex_x rfl (fun w1 h1 => x_mv rfl)) ?_
  refine e_exact 3 _ (by kernel_rfl) rfl rfl (by kernel_rfl) rfl (ex_x rfl (fun w1 h1 => x_mv rfl)) ?_
  refine e_exact 4 _ (by kernel_rfl) rfl rfl (by kernel_rfl) rfl (ex_x rfl (fun w1 h1 => x_load rfl (ld_blk ((S11.step h1).blk 1 rfl) Tryz.isAgg3 rfl))) ?_
  refine e_next [5] (by kernel_rfl) (by kernel_rfl) ⟨⟨_, _, rfl, rfl, ?_⟩, trivial⟩
  refine s_callf [] [] [_] rfl rfl Tryz.call78 rfl ((c_isOwner _ _).mono ?_)
  rintro _ w12 ⟨rfl, hl14⟩
  have S13 := S11.step hl14
  refine ⟨.of_le hl14, ?_⟩
  refine e_next [6] (by kernel_rfl) (by kernel_rfl) ⟨⟨_, _, rfl, rfl, ?_⟩, trivial⟩
  refine s_callf [] [] [_, _, _, _, _] rfl rfl Tryz.call89 rfl ((c_seated b vm vf day found _ cs9 vq (ownB o) hm hmc hsg _ (hB.le S13.le) (hF.le S13.le) (hC.le S13.le)).mono ?_)
  rintro _ w15 (⟨e9, hne9, rfl, he9, hl2515⟩ | ⟨bb9, vc9, vu9, vn9, cz9, rfl, hb9, hp9, hs9, hN2515, hl2515⟩)
  · skip
    have S16 := S13.step hl2515
    refine ⟨.of_le hl2515, ?_⟩
    refine e_exact 7 _ (by kernel_rfl) rfl rfl (by kernel_rfl) rfl (ex_x rfl (fun w1 h1 => x_mv rfl)) ?_
    refine e_exact 8 _ (by kernel_rfl) rfl rfl (by kernel_rfl) rfl (ex_x rfl (fun w1 h1 => x_extract rfl rfl)) ?_
    refine e_exact 9 _ (by kernel_rfl) rfl rfl (by kernel_rfl) rfl (ex_x rfl (fun w1 h1 => x_extract rfl rfl)) ?_
    refine e_exact 10 _ (by kernel_rfl) rfl rfl (by kernel_rfl) rfl (ex_x rfl (fun w1 h1 => x_as rfl)) ?_
    refine e_done (by kernel_rfl) ?_
    refine l_x rfl (x_as rfl) ?_
    refine l_nil ?_
    refine r_seq ?_
    refine r_region ?_
    refine l_x rfl (x_mv rfl) ?_
    refine l_x rfl (x_neq rfl rfl) ?_
    refine l_nil ?_
    refine r_ifd rfl (fun hc29 => ?_) (fun hc29 => ?_)
    · skip
      refine r_seq ?_
      refine r_region ?_
      refine l_x rfl (x_mv rfl) ?_
      refine l_x rfl (x_as rfl) ?_
      refine l_x rfl (x_as rfl) ?_
      refine l_nil ?_
      refine r_ret (rs := [.tmp 10, .tmp 11]) [_, _] Tryz.func51 rfl ⟨rfl, rfl, trivial⟩ ?_
      exact .inl ⟨e9, hne9, rfl, he9, S16.le⟩
    exact absurd hne9 hc29
  have S17 := S13.add hl2515 hN2515
  refine ⟨.of_le hl2515, ?_⟩
  have hf60 := bench_len9 hb9
  have hcl9 := (claim_ok (begin_parts hb9).2.2).1
  have hol9 := oth_len (cs := cs9) (o := o)
  refine e_exact 7 _ (by kernel_rfl) rfl rfl (by kernel_rfl) rfl (ex_x rfl (fun w1 h1 => x_mv rfl)) ?_
  refine e_exact 8 _ (by kernel_rfl) rfl rfl (by kernel_rfl) rfl (ex_x rfl (fun w1 h1 => x_extract rfl rfl)) ?_
  refine e_exact 9 _ (by kernel_rfl) rfl rfl (by kernel_rfl) rfl (ex_x rfl (fun w1 h1 => x_extract rfl rfl)) ?_
  refine e_exact 10 _ (by kernel_rfl) rfl rfl (by kernel_rfl) rfl (ex_x rfl (fun w1 h1 => x_as rfl)) ?_
  refine e_done (by kernel_rfl) ?_
  refine l_x rfl (x_as rfl) ?_
  refine l_nil ?_
  refine r_seq ?_
  refine r_region ?_
  refine l_x rfl (x_mv rfl) ?_
  refine l_x rfl (x_neq rfl rfl) ?_
  refine l_nil ?_
  refine r_ifd rfl (fun hc29 => ?_) (fun hc29 => ?_)
  · exact absurd rfl hc29
  refine r_skip ?_
  refine r_seq ?_
  refine r_region ?_
  refine l_x rfl (x_mv rfl) ?_
  refine l_call [] [] [_] rfl rfl Tryz.call121 rfl (c_CloneC _ cs9 (by omega) _ (hC.le S17.le)) ?_
  rintro v3218 w18 ⟨hN3218, hl3218⟩
  have S19 := S17.add hl3218 hN3218
  refine l_x rfl (x_func rfl rfl) ?_
  refine l_call [] [] [_, _] rfl rfl Tryz.call120 rfl (c_DeleteFuncC _ _ (fun x : Clm => decide (x.owner = o)) 122 [_] (by omega) _ Tryz.call122 (fun x hx w1 h1 => c_most1 x o _ w1 ((S19).beside 3 1 rfl rfl (by decide) h1)) ((S19).lend 3 rfl)) ?_
  rintro v20 w21 hb22
  have S23 := S19.back 3 rfl hb22
  refine l_x rfl (x_as rfl) ?_
  refine l_nil ?_
  refine r_seq ?_
  refine r_seq ?_
  refine r_region ?_
  refine l_x rfl (x_mv rfl) ?_
  refine l_x rfl (x_len (vec_rd (S23.at 3 rfl)) rfl Tryz.runUnderlying51) ?_
  refine l_x rfl (x_eql rfl rfl) ?_
  refine l_nil ?_
  refine r_ifd rfl (fun hc37 => ?_) (fun hc37 => ?_)
  · skip
    have ho10 : (oth9 cs9 o).length = 10 := by
      have h : ((oth9 cs9 o).length : Int) = 10 := hc37
      omega
    refine r_seq ?_
    refine r_region ?_
    refine l_x rfl (x_as rfl) ?_
    refine l_x rfl (x_as rfl) ?_
    refine l_nil ?_
    refine r_ret (rs := [.tmp 10, .tmp 11]) [_, _] Tryz.func51 rfl ⟨rfl, rfl, trivial⟩ ?_
    exact .inr (.inl ⟨hb9, ho10, rfl, S23.le⟩)
  have ho10 : (oth9 cs9 o).length ≠ 10 := by
    have h : ¬ ((oth9 cs9 o).length : Int) = 10 := hc37
    omega
  refine r_skip ?_
  refine r_seq ?_
  refine r_seq ?_
  refine r_region ?_
  refine l_x rfl (x_mv rfl) ?_
  refine l_x rfl (x_len (hF.le S23.le) rfl Tryz.runUnderlying50) ?_
  refine l_x rfl (x_as rfl) ?_
  refine l_nil ?_
  refine r_block ?_
  refine r_loop (G := Nat) (fun i => found.length + 1 - i) (fun i => [(1, Value.int .i64 day), (2, vs), (5, .pointer (some ⟨b4, 0, none⟩)), (9, .pointer (some ⟨b8, 0, none⟩)), (14, v20), (15, Value.int .i64 ((found.length : Int) - i))]) (fun i w' => (i ≤ found.length + 1) ∧ (∀ q : Nat, found.length < q + i → q ≤ found.length → mostP b day found cs9 o q = false) ∧ Own nob w w' [blk b4 [vm, vf] 25, blk b8 [Value.int .i64 o] 3, vec ECL v20 (oth9 cs9 o)]) 0 ⟨rfl, rfl, rfl, rfl, rfl, (congrArg (Value.int .i64) (by omega)), trivial⟩ ⟨Nat.zero_le _, fun q h1 h2 => by omega, (S23.pick [0, 1, 3] (by decide) rfl)⟩ ?_
  rintro i ρ w1 ⟨hi, hq, S1⟩ IH
  refine r_seq ?_
  refine r_seq ?_
  refine r_region ?_
  refine l_x rfl (x_mv rfl) ?_
  refine l_x rfl (x_geq rfl rfl) ?_
  refine l_nil ?_
  refine r_ifd rfl (fun hc41 => ?_) (fun hc41 => ?_)
  · skip
    obtain ⟨k, hki⟩ : ∃ k : Nat, ((found.length : Int) - i) = k := ⟨found.length - i, by omega⟩
    have hk9 : k ≤ found.length := by omega
    refine r_skip ?_
    refine r_seq ?_
    refine r_block ?_
    refine r_seq ?_
    refine r_drawE 16 (yng w1) Tryz.mixed (by kernel_rfl) ?_
    intro w24 hl25
    have S26 := S1.step hl25
    have hy27 : Keep (yng w1) w1 w24 := .of_le hl25
    refine e_exact 0 _ (by kernel_rfl) rfl rfl (by kernel_rfl) rfl (ex_x rfl (fun w1 h1 => x_load rfl (ld_blks ((S1.yng (hy27.trans h1)).blk 0 rfl) Tryz.isAgg25 Tryz.sizeOf25 rfl rfl))) ?_
    refine e_exact 1 _ (by kernel_rfl) rfl rfl (by kernel_rfl) rfl (ex_x rfl (fun w1 h1 => x_mv rfl)) ?_
    refine e_exact 2 _ (by kernel_rfl) rfl rfl (by kernel_rfl) rfl (ex_x rfl (fun w1 h1 => x_mv rfl)) ?_
    refine e_exact 3 _ (by kernel_rfl) rfl rfl (by kernel_rfl) rfl (ex_x rfl (fun w1 h1 => x_mv rfl)) ?_
    refine e_exact 5 _ (by kernel_rfl) rfl rfl (by kernel_rfl) rfl (ex_x rfl (fun w1 h1 => x_load rfl (ld_blk ((S1.yng (hy27.trans h1)).blk 1 rfl) Tryz.isAgg3 rfl))) ?_
    refine e_exact 6 _ (by kernel_rfl) rfl rfl (by kernel_rfl) rfl (ex_x rfl (fun w1 h1 => x_mv rfl)) ?_
    refine e_exact 7 _ (by kernel_rfl) rfl rfl (by kernel_rfl) rfl (ex_x rfl (fun w1 h1 => x_buildS (out := [_, _]) (ss := [1, 1]) Tryz.zeroValue83 rfl Tryz.runUnderlying83 ⟨Tryz.sizeOf3, Tryz.sizeOf3, trivial⟩ (fill_cons rfl rfl rfl (Nat.le_of_ble_eq_true rfl) (fill_cons rfl rfl rfl (Nat.le_of_ble_eq_true rfl) fill_nil)))) ?_
    refine e_next [4, 8] (by kernel_rfl) (by kernel_rfl) ⟨⟨_, _, rfl, rfl, ?_⟩, ⟨_, _, rfl, rfl, ?_⟩, trivial⟩
    · skip
      refine s_callf [] [] [_] rfl rfl Tryz.call121 rfl ((c_CloneC _ (oth9 cs9 o) (by omega) _ (vec_rd (S26.at 2 rfl))).mono ?_)
      rintro v4928 w28 ⟨hN4928, hl4928⟩
      have S29 := S26.add hl4928 hN4928
      refine ⟨.of_le hl4928, ?_⟩
      have hyb30 : ∀ c, (vec ECL v4928 []).fp c → yng w1 c := fun c hc => Nat.le_trans hy27.size (hN4928.bd c hc).1
      have hy31 : Keep (yng w1) w1 w28 := hy27.trans (Keep.of_le hl4928)
      refine e_next [8] (by kernel_rfl) (by kernel_rfl) ⟨⟨_, _, rfl, rfl, ?_⟩, trivial⟩
      refine s_buildSlice ECL [⟨o, ((found.length : Int) - i)⟩] (Own.start (X := nob) w28) rfl Tryz.runUnderlying51 Tryz.sizeOf83 Tryz.zeroValue83 rfl ⟨rfl, rfl, trivial⟩ (by decide) ?_
      intro v36 w32 S33 hl35
      have hn37 := S33.new 0 rfl
      have S34 := S29.add hl35 hn37
      refine ⟨.of_le hl35, ?_⟩
      have hyb38 : ∀ c, (vec ECL v36 []).fp c → yng w1 c := fun c hc => Nat.le_trans hy31.size (hn37.bd c hc).1
      have hy39 : Keep (yng w1) w1 w32 := hy31.trans (Keep.of_le hl35)
      refine e_next [9] (by kernel_rfl) (by kernel_rfl) ⟨⟨_, _, rfl, rfl, ?_⟩, trivial⟩
      refine s_append ECL (S34.lend 3 rfl) 0 rfl rfl rfl rfl (vec_rd (S34.at 4 rfl)) Tryz.underlying51 info83 rfl rfl rfl (by unfold maxLen; simp; omega) (by simp; show _ * 16 ≤ _; omega) ?_
      intro v44 w40 S41 hk43 hv45
      have S42 := S34.back 3 rfl S41
      have hyb46 : ∀ c, (vec ECL v44 []).fp c → yng w1 c := fun c hc => (S41.bd 0 _ rfl c hc).2.elim (fun h => Nat.le_trans hy39.size h) (hyb30 c)
      refine ⟨hk43.mono fun c _ hc => hyb30 c hc, ?_⟩
      have hy47 : Keep (yng w1) w1 w40 := hy39.trans (hk43.mono fun c _ hc => hyb30 c hc)
      refine e_next [10] (by kernel_rfl) (by kernel_rfl) ⟨⟨_, _, rfl, rfl, ?_⟩, trivial⟩
      refine s_callf [] [] [_, _, _, _, _] rfl rfl Tryz.call89 rfl ((c_seated b vm vf day found _ ((oth9 cs9 o) ++ [⟨o, ((found.length : Int) - i)⟩]) _ true hm (by simp; omega) hsg _ (hB.le S42.le) (hF.le S42.le) (vec_rd (S42.at 3 rfl))).mono ?_)
      rintro _ w48 (⟨e8, hne8, rfl, he8, hl5548⟩ | ⟨bb8, vc8, vu8, vn8, cz8, rfl, hb8, hp8, hs8, hN5548, hl5548⟩)
      · exact absurd (he8.trans (oth_begin hb9 ho10 (by omega))) hne8
      have S49 := S42.add hl5548 hN5548
      refine ⟨.of_le hl5548, ?_⟩
      rw [hki] at hb8 hp8
      have hcp8 := most_can hb8 hp8
      have hbo8 := bench_ok hb8 hp8
      have hy50 : Keep (yng w1) w1 w48 := hy47.trans (Keep.of_le hl5548)
      refine e_exact 11 _ (by kernel_rfl) rfl rfl (by kernel_rfl) rfl (ex_x rfl (fun w1 h1 => x_mv rfl)) ?_
      refine e_exact 12 _ (by kernel_rfl) rfl rfl (by kernel_rfl) rfl (ex_x rfl (fun w1 h1 => x_extract rfl rfl)) ?_
      refine e_exact 13 _ (by kernel_rfl) rfl rfl (by kernel_rfl) rfl (ex_x rfl (fun w1 h1 => x_extract rfl rfl)) ?_
      refine e_exact 14 _ (by kernel_rfl) rfl rfl (by kernel_rfl) rfl (ex_x rfl (fun w1 h1 => x_as rfl)) ?_
      refine e_exact 15 _ (by kernel_rfl) rfl rfl (by kernel_rfl) rfl (ex_x rfl (fun w1 h1 => x_as rfl)) ?_
      refine e_done (by kernel_rfl) ?_
      refine l_nil ?_
      refine r_seq ?_
      refine r_seq ?_
      refine r_region ?_
      refine l_x rfl (x_mv rfl) ?_
      refine l_x rfl (x_neq rfl rfl) ?_
      refine l_nil ?_
      refine r_ifd rfl (fun hc59 => ?_) (fun hc59 => ?_)
      · exact absurd rfl hc59
      refine r_skip ?_
      refine r_seq ?_
      refine r_region ?_
      refine l_x rfl (x_mv rfl) ?_
      refine l_call [] [] [_] rfl rfl Tryz.call90 rfl (c_can bb8 vc8 vu8 vn8 cz8 (mks b day found cz8) (cnz b day found cz8) hbo8.l hbo8.b hbo8.n hbo8.c _ (bn_of (S49.ro 5 rfl))) ?_
      rintro _ w51 ⟨rfl, hl53⟩
      have S52 := S49.step hl53
      refine l_nil ?_
      refine r_if rfl (fun hc62 => ?_) (fun hc62 => ?_)
      · skip
        refine r_seq ?_
        refine r_region ?_
        refine l_x rfl (x_mv rfl) ?_
        refine l_x rfl (x_as rfl) ?_
        refine l_x rfl (x_as rfl) ?_
        refine l_nil ?_
        refine r_ret (rs := [.tmp 10, .tmp 11]) [_, _] Tryz.func51 rfl ⟨rfl, rfl, trivial⟩ ?_
        exact .inr (.inr (.inl ⟨k, hb9, ho10, hk9, by rw [← hcp8]; simpa using hc62, fun q h1 h2 => hq q (by omega) h2, congrArg (fun q => Value.tuple #[.int .i64 q, .int .i64 0]) hki, S52.le⟩))
      refine r_skip ?_
      refine r_inBlock ?_
      refine r_region ?_
      refine l_x rfl (x_mv rfl) ?_
      refine l_x rfl (x_sub rfl rfl (by omega)) ?_
      refine l_x rfl (x_as rfl) ?_
      refine l_nil ?_
      exact IH (i + 1) _ _ (by omega) ⟨rfl, rfl, rfl, rfl, rfl, (congrArg (Value.int .i64) (by omega)), trivial⟩ ⟨by omega, most_step hq hk9 hki (by rw [← hcp8]; simpa using hc62), (S52.take 3)⟩
    refine s_buildSlice ECL [⟨o, ((found.length : Int) - i)⟩] (Own.start (X := nob) w24) rfl Tryz.runUnderlying51 Tryz.sizeOf83 Tryz.zeroValue83 rfl ⟨rfl, rfl, trivial⟩ (by decide) ?_
    intro v58 w54 S55 hl57
    have hn59 := S55.new 0 rfl
    have S56 := S26.add hl57 hn59
    refine ⟨.of_le hl57, ?_⟩
    have hyb60 : ∀ c, (vec ECL v58 []).fp c → yng w1 c := fun c hc => Nat.le_trans hy27.size (hn59.bd c hc).1
    have hy61 : Keep (yng w1) w1 w54 := hy27.trans (Keep.of_le hl57)
    refine e_next [4] (by kernel_rfl) (by kernel_rfl) ⟨⟨_, _, rfl, rfl, ?_⟩, trivial⟩
    refine s_callf [] [] [_] rfl rfl Tryz.call121 rfl ((c_CloneC _ (oth9 cs9 o) (by omega) _ (vec_rd (S56.at 2 rfl))).mono ?_)
    rintro v4962 w62 ⟨hN4962, hl4962⟩
    have S63 := S56.add hl4962 hN4962
    refine ⟨.of_le hl4962, ?_⟩
    have hyb64 : ∀ c, (vec ECL v4962 []).fp c → yng w1 c := fun c hc => Nat.le_trans hy61.size (hN4962.bd c hc).1
    have hy65 : Keep (yng w1) w1 w62 := hy61.trans (Keep.of_le hl4962)
    refine e_next [9] (by kernel_rfl) (by kernel_rfl) ⟨⟨_, _, rfl, rfl, ?_⟩, trivial⟩
    refine s_append ECL (S63.lend 4 rfl) 0 rfl rfl rfl rfl (vec_rd (S63.at 3 rfl)) Tryz.underlying51 info83 rfl rfl rfl (by unfold maxLen; simp; omega) (by simp; show _ * 16 ≤ _; omega) ?_
    intro v70 w66 S67 hk69 hv71
    have S68 := S63.back 4 rfl S67
    have hyb72 : ∀ c, (vec ECL v70 []).fp c → yng w1 c := fun c hc => (S67.bd 0 _ rfl c hc).2.elim (fun h => Nat.le_trans hy65.size h) (hyb64 c)
    refine ⟨hk69.mono fun c _ hc => hyb64 c hc, ?_⟩
    have hy73 : Keep (yng w1) w1 w66 := hy65.trans (hk69.mono fun c _ hc => hyb64 c hc)
    refine e_next [10] (by kernel_rfl) (by kernel_rfl) ⟨⟨_, _, rfl, rfl, ?_⟩, trivial⟩
    refine s_callf [] [] [_, _, _, _, _] rfl rfl Tryz.call89 rfl ((c_seated b vm vf day found _ ((oth9 cs9 o) ++ [⟨o, ((found.length : Int) - i)⟩]) _ true hm (by simp; omega) hsg _ (hB.le S68.le) (hF.le S68.le) (vec_rd (S68.at 4 rfl))).mono ?_)
    rintro _ w74 (⟨e8, hne8, rfl, he8, hl5574⟩ | ⟨bb8, vc8, vu8, vn8, cz8, rfl, hb8, hp8, hs8, hN5574, hl5574⟩)
    · exact absurd (he8.trans (oth_begin hb9 ho10 (by omega))) hne8
    have S75 := S68.add hl5574 hN5574
    refine ⟨.of_le hl5574, ?_⟩
    rw [hki] at hb8 hp8
    have hcp8 := most_can hb8 hp8
    have hbo8 := bench_ok hb8 hp8
    have hy76 : Keep (yng w1) w1 w74 := hy73.trans (Keep.of_le hl5574)
    refine e_exact 11 _ (by kernel_rfl) rfl rfl (by kernel_rfl) rfl (ex_x rfl (fun w1 h1 => x_mv rfl)) ?_
    refine e_exact 12 _ (by kernel_rfl) rfl rfl (by kernel_rfl) rfl (ex_x rfl (fun w1 h1 => x_extract rfl rfl)) ?_
    refine e_exact 13 _ (by kernel_rfl) rfl rfl (by kernel_rfl) rfl (ex_x rfl (fun w1 h1 => x_extract rfl rfl)) ?_
    refine e_exact 14 _ (by kernel_rfl) rfl rfl (by kernel_rfl) rfl (ex_x rfl (fun w1 h1 => x_as rfl)) ?_
    refine e_exact 15 _ (by kernel_rfl) rfl rfl (by kernel_rfl) rfl (ex_x rfl (fun w1 h1 => x_as rfl)) ?_
    refine e_done (by kernel_rfl) ?_
    refine l_nil ?_
    refine r_seq ?_
    refine r_seq ?_
    refine r_region ?_
    refine l_x rfl (x_mv rfl) ?_
    refine l_x rfl (x_neq rfl rfl) ?_
    refine l_nil ?_
    refine r_ifd rfl (fun hc59 => ?_) (fun hc59 => ?_)
    · exact absurd rfl hc59
    refine r_skip ?_
    refine r_seq ?_
    refine r_region ?_
    refine l_x rfl (x_mv rfl) ?_
    refine l_call [] [] [_] rfl rfl Tryz.call90 rfl (c_can bb8 vc8 vu8 vn8 cz8 (mks b day found cz8) (cnz b day found cz8) hbo8.l hbo8.b hbo8.n hbo8.c _ (bn_of (S75.ro 5 rfl))) ?_
    rintro _ w77 ⟨rfl, hl79⟩
    have S78 := S75.step hl79
    refine l_nil ?_
    refine r_if rfl (fun hc62 => ?_) (fun hc62 => ?_)
    · skip
      refine r_seq ?_
      refine r_region ?_
      refine l_x rfl (x_mv rfl) ?_
      refine l_x rfl (x_as rfl) ?_
      refine l_x rfl (x_as rfl) ?_
      refine l_nil ?_
      refine r_ret (rs := [.tmp 10, .tmp 11]) [_, _] Tryz.func51 rfl ⟨rfl, rfl, trivial⟩ ?_
      exact .inr (.inr (.inl ⟨k, hb9, ho10, hk9, by rw [← hcp8]; simpa using hc62, fun q h1 h2 => hq q (by omega) h2, congrArg (fun q => Value.tuple #[.int .i64 q, .int .i64 0]) hki, S78.le⟩))
    refine r_skip ?_
    refine r_inBlock ?_
    refine r_region ?_
    refine l_x rfl (x_mv rfl) ?_
    refine l_x rfl (x_sub rfl rfl (by omega)) ?_
    refine l_x rfl (x_as rfl) ?_
    refine l_nil ?_
    exact IH (i + 1) _ _ (by omega) ⟨rfl, rfl, rfl, rfl, rfl, (congrArg (Value.int .i64) (by omega)), trivial⟩ ⟨by omega, most_step hq hk9 hki (by rw [← hcp8]; simpa using hc62), (S78.take 3)⟩
  obtain rfl : i = found.length + 1 := by omega
  refine r_exit rfl ?_
  refine r_seq ?_
  refine r_region ?_
  refine l_x rfl (x_as rfl) ?_
  refine l_x rfl (x_as rfl) ?_
  refine l_nil ?_
  refine r_ret (rs := [.tmp 10, .tmp 11]) [_, _] Tryz.func51 rfl ⟨rfl, rfl, trivial⟩ ?_
  exact .inr (.inr (.inr ⟨hb9, ho10, fun q h => hq q (by omega) h, rfl, S1.le⟩))

end Go.Proofs

/-
  Contracts of functions of the program: each by symbolic execution of its text.
-/
namespace Go.Proofs
open Go Go.Vk Go.Vk.Flow

open Go.Vk.Mark
open Go.Vk.Deed (i64 rng rng_iff owners sumI sumI_cons sumI_snoc)
open Go.Vk.Deed (cmpI)

theorem c_AssignM (b : Sm) (vm vf : Value) (day : Int) (found : List Sg) (vs : Value) (cs9 : List Clm) (vq : Value) (hm : found.length ≤ 9223372036854775807) (hmc : cs9.length ≤ 9223372036854775807) (hsg : ∀ t ∈ found, SgOk t) (hb : beginE b day true found cs9 = 0) (w : World) (hB : SmR 39 41 w vm vf b) (hF : Rd ESG w vs found) (hC : Rd ECL w vq cs9) : Cl Tryz.prog 27 #[.agg #[vm, vf], Value.int .i64 day, vs, vq] w fun v w' => ∃ s, v = .tuple #[s, .bool (metB (fs b day found) cs9), .int .i64 0] ∧ Le w w' :=
  (c_Assign b vm vf day found vs cs9 vq hm hmc hsg w hB hF hC).mono fun v w' h => by
    rcases h with ⟨e', hn, rfl, he', hl⟩ | ⟨cz', hb', hp', hs', hc, rfl, hl⟩ | ⟨cz', s, hb', hp', hs', hc, rfl, hN, hl⟩
    · exact absurd (he'.trans hb) hn
    · rw [can_cs hb hp'] at hc; rw [hc]; exact ⟨_, rfl, hl⟩
    rw [can_cs hb hp'] at hc; rw [hc]; exact ⟨_, rfl, hl⟩
theorem c_AssignMT (b : Sm) (vm vf : Value) (day : Int) (found : List Sg) (vs : Value) (cs9 : List Clm) (vq : Value) (hm : found.length ≤ 9223372036854775807) (hmc : cs9.length ≤ 9223372036854775807) (hsg : ∀ t ∈ found, SgOk t) (hb : beginE b day true found cs9 = 0) (h9 : metB (fs b day found) cs9 = true) (w : World) (hB : SmR 39 41 w vm vf b) (hF : Rd ESG w vs found) (hC : Rd ECL w vq cs9) : Cl Tryz.prog 27 #[.agg #[vm, vf], Value.int .i64 day, vs, vq] w fun v w' => ∃ s, v = .tuple #[s, .bool true, .int .i64 0] ∧ Le w w' :=
  (c_AssignM b vm vf day found vs cs9 vq hm hmc hsg hb w hB hF hC).mono fun v w' h => by rw [h9] at h; exact h
theorem c_AssignMF (b : Sm) (vm vf : Value) (day : Int) (found : List Sg) (vs : Value) (cs9 : List Clm) (vq : Value) (hm : found.length ≤ 9223372036854775807) (hmc : cs9.length ≤ 9223372036854775807) (hsg : ∀ t ∈ found, SgOk t) (hb : beginE b day true found cs9 = 0) (h9 : metB (fs b day found) cs9 = false) (w : World) (hB : SmR 39 41 w vm vf b) (hF : Rd ESG w vs found) (hC : Rd ECL w vq cs9) : Cl Tryz.prog 27 #[.agg #[vm, vf], Value.int .i64 day, vs, vq] w fun v w' => ∃ s, v = .tuple #[s, .bool false, .int .i64 0] ∧ Le w w' :=
  (c_AssignM b vm vf day found vs cs9 vq hm hmc hsg hb w hB hF hC).mono fun v w' h => by rw [h9] at h; exact h
theorem c_MostE (b : Sm) (vm vf : Value) (day : Int) (found : List Sg) (vs : Value) (cs9 : List Clm) (vq : Value) (hm : found.length ≤ 9223372036854775807) (hmc : cs9.length ≤ 9223372036854775807) (hsg : ∀ t ∈ found, SgOk t) (o : Int) (hE : beginE b day (ownB o) found cs9 ≠ 0) (w : World) (hB : SmR 39 41 w vm vf b) (hF : Rd ESG w vs found) (hC : Rd ECL w vq cs9) : Cl Tryz.prog 51 #[.agg #[vm, vf], Value.int .i64 day, vs, vq, Value.int .i64 o] w fun v w' => ∃ e, e ≠ 0 ∧ v = .tuple #[.int .i64 0, .int .i64 e] ∧ Le w w' :=
  (c_Most b vm vf day found vs cs9 vq hm hmc hsg o w hB hF hC).mono fun v w' h => by
    rcases h with ⟨e', hn, rfl, he', hl⟩ | ⟨hb, _⟩ | ⟨n, hb, _⟩ | ⟨hb, _⟩
    · exact ⟨e', hn, rfl, hl⟩
    · exact absurd hb hE
    · exact absurd hb hE
    exact absurd hb hE
theorem c_MostK (b : Sm) (vm vf : Value) (day : Int) (found : List Sg) (vs : Value) (cs9 : List Clm) (vq : Value) (hm : found.length ≤ 9223372036854775807) (hmc : cs9.length ≤ 9223372036854775807) (hsg : ∀ t ∈ found, SgOk t) (o : Int) (hE : beginE b day (ownB o) found cs9 = 0) (h10 : (oth9 cs9 o).length ≠ 10) (w : World) (hB : SmR 39 41 w vm vf b) (hF : Rd ESG w vs found) (hC : Rd ECL w vq cs9) : Cl Tryz.prog 51 #[.agg #[vm, vf], Value.int .i64 day, vs, vq, Value.int .i64 o] w fun v w' => (∃ n : Nat, n ≤ found.length ∧ mostP b day found cs9 o n = true ∧ (∀ q : Nat, n < q → q ≤ found.length → mostP b day found cs9 o q = false) ∧ v = .tuple #[.int .i64 n, .int .i64 0] ∧ Le w w') ∨ ((∀ q : Nat, q ≤ found.length → mostP b day found cs9 o q = false) ∧ v = .tuple #[.int .i64 0, .int .i64 30] ∧ Le w w') :=
  (c_Most b vm vf day found vs cs9 vq hm hmc hsg o w hB hF hC).mono fun v w' h => by
    rcases h with ⟨e', hn, rfl, he', hl⟩ | ⟨_, hl, _⟩ | ⟨n, _, _, h1, h2, h3, h4, h5⟩ | ⟨_, _, h1, h2, h3⟩
    · exact absurd (he'.trans hE |>.symm ▸ rfl) hn
    · exact absurd hl h10
    · exact .inl ⟨n, h1, h2, h3, h4, h5⟩
    exact .inr ⟨h1, h2, h3⟩

end Go.Proofs
