/- Texts joined for claims: F4, F5, F6, F7, F8, F9, F10, F11, T1, T2, T3, T4. -/
import Derived.Test.YtlegfcmlfhlokaaGreatKd1c8a3bc0a
import Derived.Test.YtlegfcmlfhlokaaGreatSort
import Derived.Test.YtlegfcmlfhlokaaGreatK76cfbaf9ef
import Derived.Test.YtlegfcmlfhlokaaGreatK14dc260b23
set_option linter.unusedVariables false
set_option linter.unusedSimpArgs false
set_option linter.unusedSectionVars false
/-
  Contracts of functions of the program: each by symbolic execution of its text.
-/
namespace Go.Proofs
open Go Go.Vk Go.Vk.Flow

open Go.Vk.Deed

/-- cmp.isNaN[int]. -/
theorem c_isNaN (a : Int) (w : World) :
    Cl Tryz.prog 61 #[.int .i64 a] w fun v w' => v = .bool false ∧ Le w w' := by
  refine fn_of_run (args := [_]) 6 Tryz.func61 rfl rfl rfl fun cs => ?_
  have S := Own.start (X := nob) w
  refine r_seq ?_
  refine r_region ?_
  refine l_x rfl (x_as rfl) ?_
  refine l_nil ?_
  refine r_seq ?_
  refine r_region ?_
  refine l_x rfl (x_mv rfl) ?_
  refine l_x rfl (x_mv rfl) ?_
  refine l_x rfl (x_neq rfl rfl) ?_
  refine l_x rfl (x_as rfl) ?_
  refine l_nil ?_
  refine r_ret (rs := [.tmp 2]) [_] Tryz.func61 rfl ⟨rfl, trivial⟩ ?_
  exact ⟨congrArg Value.bool (by simp), S.le⟩

/-- cmp.Compare[int]. -/
theorem c_Compare (a b : Int) (w : World) :
    Cl Tryz.prog 30 #[.int .i64 a, .int .i64 b] w fun v w' => v = .int .i64 (cmpI a b) ∧ Le w w' := by
  refine fn_of_run (args := [_, _]) 20 Tryz.func30 rfl rfl rfl fun cs => ?_
  have S := Own.start (X := nob) w
  refine r_seq ?_
  refine r_region ?_
  refine l_x rfl (x_as rfl) ?_
  refine l_nil ?_
  refine r_seq ?_
  refine r_region ?_
  refine l_x rfl (x_mv rfl) ?_
  refine l_call [] [] [_] rfl rfl Tryz.call61 rfl (c_isNaN _ _) ?_
  rintro _ w1 ⟨rfl, hl3⟩
  have S2 := S.step hl3
  refine l_x rfl (x_as rfl) ?_
  refine l_nil ?_
  refine r_seq ?_
  refine r_region ?_
  refine l_x rfl (x_mv rfl) ?_
  refine l_call [] [] [_] rfl rfl Tryz.call61 rfl (c_isNaN _ _) ?_
  rintro _ w4 ⟨rfl, hl6⟩
  have S5 := S2.step hl6
  refine l_x rfl (x_as rfl) ?_
  refine l_nil ?_
  refine r_seq ?_
  refine r_seq ?_
  refine r_region ?_
  refine l_x rfl (x_mv rfl) ?_
  refine l_nil ?_
  refine r_false rfl ?_
  refine r_skip ?_
  refine r_seq ?_
  refine r_seq ?_
  refine r_region ?_
  refine l_x rfl (x_mv rfl) ?_
  refine l_nil ?_
  refine r_false rfl ?_
  refine r_skip ?_
  refine r_seq ?_
  refine r_seq ?_
  refine r_region ?_
  refine l_x rfl (x_mv rfl) ?_
  refine l_x rfl (x_mv rfl) ?_
  refine l_x rfl (x_lss rfl rfl) ?_
  refine l_nil ?_
  refine r_ifd rfl (fun hc16 => ?_) (fun hc16 => ?_)
  · skip
    refine r_seq ?_
    refine r_region ?_
    refine l_x rfl (x_as rfl) ?_
    refine l_nil ?_
    refine r_ret (rs := [.tmp 4]) [_] Tryz.func30 rfl ⟨rfl, trivial⟩ ?_
    exact ⟨congrArg (Value.int .i64) (by unfold cmpI; split <;> (try split) <;> omega), S5.le⟩
  refine r_skip ?_
  refine r_seq ?_
  refine r_seq ?_
  refine r_region ?_
  refine l_x rfl (x_mv rfl) ?_
  refine l_x rfl (x_mv rfl) ?_
  refine l_x rfl (x_gtr rfl rfl) ?_
  refine l_nil ?_
  refine r_ifd rfl (fun hc19 => ?_) (fun hc19 => ?_)
  · skip
    refine r_seq ?_
    refine r_region ?_
    refine l_x rfl (x_as rfl) ?_
    refine l_nil ?_
    refine r_ret (rs := [.tmp 4]) [_] Tryz.func30 rfl ⟨rfl, trivial⟩ ?_
    exact ⟨congrArg (Value.int .i64) (by unfold cmpI; split <;> (try split) <;> omega), S5.le⟩
  refine r_skip ?_
  refine r_seq ?_
  refine r_region ?_
  refine l_x rfl (x_as rfl) ?_
  refine l_nil ?_
  refine r_ret (rs := [.tmp 4]) [_] Tryz.func30 rfl ⟨rfl, trivial⟩ ?_
  exact ⟨congrArg (Value.int .i64) (by unfold cmpI; split <;> (try split) <;> omega), S5.le⟩

/-- cmp.Or[int]. -/
theorem c_Or (l : List Int) (vl : Value) (hm : l.length ≤ 9223372036854775807) (w : World) (hL : Rd EI w vl l) :
    Cl Tryz.prog 73 #[vl] w fun v w' => v = .int .i64 (orI l) ∧ Le w w' := by
  refine fn_of_run (args := [_]) 18 Tryz.func73 rfl rfl rfl fun cs => ?_
  have S := Own.start (X := nob) w
  refine r_seq ?_
  refine r_region ?_
  refine l_x rfl (x_as rfl) ?_
  refine l_nil ?_
  refine r_seq ?_
  refine r_region ?_
  refine l_x rfl (x_as rfl) ?_
  refine l_nil ?_
  refine r_seq ?_
  refine r_seq ?_
  refine r_region ?_
  refine l_x rfl (x_mv rfl) ?_
  refine l_x rfl (x_len (hL.le S.le) rfl Tryz.runUnderlying23) ?_
  refine l_x rfl (x_mv rfl) ?_
  refine l_nil ?_
  refine r_block ?_
  refine r_loop (G := Nat) (fun i => l.length - i) (fun i => [(3, .int .i64 0), (6, vl), (7, .int .i64 l.length), (8, .int .i64 i)]) (fun i w' => (i ≤ l.length) ∧ (orI l = orI (l.drop i)) ∧ Own nob w w' []) 0 ⟨rfl, rfl, rfl, rfl, trivial⟩ ⟨Nat.zero_le _, by rw [List.drop_zero], S⟩ ?_
  rintro i ρ w1 ⟨hi, hz, S1⟩ IH
  refine r_seq ?_
  refine r_region ?_
  refine l_x rfl (x_lss rfl rfl) ?_
  refine l_nil ?_
  refine r_seq ?_
  refine r_ifd rfl (fun hc9 => ?_) (fun hc9 => ?_)
  · skip
    obtain ⟨a, ha⟩ : ∃ a, l[i]? = some a := ⟨_, List.getElem?_eq_getElem (by omega)⟩
    refine r_skip ?_
    refine r_seq ?_
    refine r_block ?_
    refine r_seq ?_
    refine r_region ?_
    refine l_index EI rfl (hL.le S1.le) rfl rfl Tryz.runUnderlying23 Tryz.sizeOf3 (by omega) (by first | assumption | exact List.getElem?_eq_getElem (by omega)) ?_
    intro b1 o2 hat3 row4
    refine l_x rfl (x_load rfl (ld_cell Tryz.isAgg3 (row4 0 _ rfl))) ?_
    refine l_x rfl (x_as rfl) ?_
    refine l_nil ?_
    refine r_seq ?_
    refine r_region ?_
    refine l_x rfl (x_mv rfl) ?_
    refine l_x rfl (x_mv rfl) ?_
    refine l_x rfl (x_neq rfl rfl) ?_
    refine l_nil ?_
    refine r_ifd rfl (fun hc14 => ?_) (fun hc14 => ?_)
    · skip
      refine r_seq ?_
      refine r_region ?_
      refine l_x rfl (x_mv rfl) ?_
      refine l_x rfl (x_as rfl) ?_
      refine l_nil ?_
      refine r_ret (rs := [.tmp 2]) [_] Tryz.func73 rfl ⟨rfl, trivial⟩ ?_
      exact ⟨congrArg (Value.int .i64) (by rw [hz, or_take ha hc14]), S1.le⟩
    refine r_skip ?_
    refine r_inBlock ?_
    refine r_region ?_
    refine l_x rfl (x_add rfl rfl (by omega)) ?_
    refine l_x rfl (x_mv rfl) ?_
    refine l_nil ?_
    exact IH (i + 1) _ _ (by omega) ⟨rfl, rfl, rfl, rfl, trivial⟩ ⟨by omega, by rw [hz, or_skip ha (Decidable.not_not.1 hc14)], S1⟩
  obtain rfl : i = l.length := by omega
  refine r_exit rfl ?_
  refine r_seq ?_
  refine r_region ?_
  refine l_x rfl (x_mv rfl) ?_
  refine l_x rfl (x_as rfl) ?_
  refine l_nil ?_
  refine r_ret (rs := [.tmp 2]) [_] Tryz.func73 rfl ⟨rfl, trivial⟩ ?_
  exact ⟨congrArg (Value.int .i64) (by rw [hz, List.drop_length]; rfl), S1.le⟩

/-- couchant/deed.counting$1. -/
theorem c_counting1 (a b : Rw) (w : World) :
    Cl Tryz.prog 72 #[.agg (encD a).toArray, .agg (encD b).toArray] w fun v w' => v = .int .i64 (cfD a b) ∧ Le w w' := by
  refine fn_of_run (args := [_, _]) 17 Tryz.func72 rfl rfl rfl fun cs => ?_
  have S := Own.start (X := nob) w
  refine r_seq ?_
  refine r_region ?_
  refine l_box S rfl rfl ?_
  intro b4 w1 S2 hl3
  refine l_box S2 rfl rfl ?_
  intro b8 w5 S6 hl7
  refine l_x rfl (x_as rfl) ?_
  refine l_nil ?_
  refine r_seq ?_
  refine r_drawR 10 Tryz.mixed (by kernel_rfl) ?_
  refine w_x rfl (fun w1 h1 => x_fieldAddr rfl Tryz.runUnderlying45 rfl Tryz.sizeOf3 (by decide)) ?_
  refine w_x rfl (fun w1 h1 => x_load rfl (ld_blk ((S6.step h1).blk 0 rfl) Tryz.isAgg3 rfl)) ?_
  refine w_x rfl (fun w1 h1 => x_fieldAddr rfl Tryz.runUnderlying45 rfl Tryz.sizeOf3 (by decide)) ?_
  refine w_x rfl (fun w1 h1 => x_load rfl (ld_blk ((S6.step h1).blk 1 rfl) Tryz.isAgg3 rfl)) ?_
  refine wd_call [] [] [_, _] rfl rfl Tryz.call30 rfl (fun w1 h1 => c_Compare _ _ _) ?_
  refine w_x rfl (fun w1 h1 => x_fieldAddr rfl Tryz.runUnderlying45 rfl Tryz.sizeOf3 (by decide)) ?_
  refine w_x rfl (fun w1 h1 => x_load rfl (ld_blk ((S6.step h1).blk 0 rfl) Tryz.isAgg3 rfl)) ?_
  refine w_x rfl (fun w1 h1 => x_fieldAddr rfl Tryz.runUnderlying45 rfl Tryz.sizeOf3 (by decide)) ?_
  refine w_x rfl (fun w1 h1 => x_load rfl (ld_blk ((S6.step h1).blk 1 rfl) Tryz.isAgg3 rfl)) ?_
  refine wd_call [] [] [_, _] rfl rfl Tryz.call30 rfl (fun w1 h1 => c_Compare _ _ _) ?_
  refine w_nil ?_
  intro w9 hl10
  have S11 := S6.step hl10
  refine l_buildSlice EI [cmpI a.1.day b.1.day, cmpI a.1.id b.1.id] S11 rfl Tryz.runUnderlying23 Tryz.sizeOf3 Tryz.zeroValue3 rfl ⟨rfl, rfl, rfl, rfl, trivial⟩ (Nat.le_of_ble_eq_true rfl) ?_
  intro v15 w12 S13 hl14
  refine l_call [] [] [_] rfl rfl Tryz.call73 rfl (c_Or _ _ (Nat.le_of_ble_eq_true rfl) _ (vec_rd (S13.at 2 rfl))) ?_
  rintro _ w16 ⟨rfl, hl18⟩
  have S17 := S13.step hl18
  refine l_x rfl (x_as rfl) ?_
  refine l_nil ?_
  refine r_ret (rs := [.tmp 4]) [_] Tryz.func72 rfl ⟨rfl, trivial⟩ ?_
  exact ⟨rfl, S17.le⟩



theorem c_SortDeed (v : Value) (l : List Rw) (w : World) (S : Own (vec ED v l).fp w w [vec ED v l]) (hl : l.length < 4611686018427387904) :
    Cl Tryz.prog 102 #[v, .func (.func 72) #[] #[]] w fun _ w' => ∃ l', l'.Perm l ∧ SortedL cfD l' ∧ Own (vec ED v l).fp w w' [vec ED v l'] :=
  sortK_cl (E := ED) (cf := cfD) (cb := #[]) (g := 72) (fun blk off cap d w hc hH hb hs => AnyQ.slices_SortFunc Tryz.sortDeed 11 Tryz.isAgg45 Tryz.sizeOf45 ED.enc ED.len ED.one cfD swo_D 72 #[] blk off cap d w Tryz.call72 hc hH hb hs) (fun p cap fv w => AnyF.slices_SortFunc_none { Tryz.sortDeed with } p cap fv w) (fun x y w1 => by rw [Array.append_empty]; exact c_counting1 x y w1) S hl

/-- slices.Clone[[]couchant/api.Deed,couchant/api.Deed]. -/
theorem c_CloneDeed (va : Value) (l : List Rw) (hm : l.length ≤ 1000000000) (w : World) (hL : Rd ED w va l) :
    Cl Tryz.prog 48 #[va] w fun v w' => New w w' (vec ED v l) ∧ Le w w' := by
  refine fn_of_run (args := [_]) 8 Tryz.func48 rfl rfl rfl fun cs => ?_
  have S := Own.start (X := nob) w
  refine r_seq ?_
  refine r_region ?_
  refine l_x rfl (x_as rfl) ?_
  refine l_nil ?_
  refine r_seq ?_
  refine r_seq ?_
  refine r_region ?_
  refine l_x rfl (x_mv rfl) ?_
  refine l_nilsl (hL.le S.le) rfl rfl rfl Tryz.runUnderlying22 (fun t1 hnil4 => ?_)
  refine l_nil ?_
  refine r_if rfl (fun hc4 => ?_) (fun hc4 => ?_)
  · skip
    refine r_seq ?_
    refine r_region ?_
    refine l_x rfl (x_as rfl) ?_
    refine l_nil ?_
    refine r_ret (rs := [.tmp 2]) [_] Tryz.func48 rfl ⟨rfl, trivial⟩ ?_
    exact ⟨by rw [hnil4 hc4]; exact New.nilvec .., S.le⟩
  refine r_skip ?_
  refine r_seq ?_
  refine r_region ?_
  refine l_buildSlice ED [] S rfl Tryz.runUnderlying22 Tryz.sizeOf45 Tryz.zeroValue45 rfl trivial (Nat.le_of_ble_eq_true rfl) ?_
  intro v5 w2 S3 hl4
  refine l_x rfl (x_mv rfl) ?_
  refine l_append ED S3 0 rfl rfl rfl rfl (hL.le S3.le) Tryz.underlying22 info45 rfl rfl rfl (by unfold maxLen; rw [List.length_nil]; omega) (by rw [List.length_nil]; show _ * 120 ≤ _; omega) ?_
  intro v9 w6 S7 hk8 hv10
  refine l_x rfl (x_as rfl) ?_
  refine l_nil ?_
  refine r_ret (rs := [.tmp 2]) [_] Tryz.func48 rfl ⟨rfl, trivial⟩ ?_
  exact ⟨S7.new 0 rfl, S7.le⟩

/-- couchant/deed.sorted[couchant/api.Deed]. -/
theorem c_sortedDeed (va : Value) (l : List Rw) (hm : l.length ≤ 1000000000) (w : World) (hL : Rd ED w va l) :
    Cl Tryz.prog 71 #[va, .func (.func 72) #[] #[]] w fun v w' => ∃ l', l'.Perm l ∧ SortedL cfD l' ∧ New w w' (vec ED v l') ∧ Le w w' := by
  refine fn_of_run (args := [_, _]) 12 Tryz.func71 rfl rfl rfl fun cs => ?_
  have S := Own.start (X := nob) w
  refine r_seq ?_
  refine r_region ?_
  refine l_x rfl (x_as rfl) ?_
  refine l_nil ?_
  refine r_seq ?_
  refine r_region ?_
  refine l_x rfl (x_mv rfl) ?_
  refine l_call [] [] [_] rfl rfl Tryz.call48 rfl (c_CloneDeed _ _ hm _ (hL.le S.le)) ?_
  rintro v71 w1 ⟨hN71, hl71⟩
  have S2 := S.add hl71 hN71
  refine l_x rfl (x_as rfl) ?_
  refine l_nil ?_
  refine r_seq ?_
  refine r_region ?_
  refine l_x rfl (x_mv rfl) ?_
  refine l_x rfl (x_mv rfl) ?_
  refine l_call [] [] [_, _] rfl rfl Tryz.call102 rfl (c_SortDeed _ _ _ (S2.lend 0 rfl) (by omega)) ?_
  rintro _ w3 ⟨l', hp', hs', h4⟩
  have S5 := S2.back 0 rfl h4
  refine l_nil ?_
  refine r_seq ?_
  refine r_region ?_
  refine l_x rfl (x_mv rfl) ?_
  refine l_x rfl (x_as rfl) ?_
  refine l_nil ?_
  refine r_ret (rs := [.tmp 4]) [_] Tryz.func71 rfl ⟨rfl, trivial⟩ ?_
  exact ⟨l', hp', hs', S5.new 0 rfl, S5.le⟩

theorem c_SortInt (v : Value) (l : List Int) (w : World) (S : Own (vec EI v l).fp w w [vec EI v l]) (hl : l.length < 4611686018427387904) :
    Cl Tryz.prog 79 #[v, .func (.func 30) #[] #[]] w fun _ w' => ∃ l', l'.Perm l ∧ SortedL cmpI l' ∧ Own (vec EI v l).fp w w' [vec EI v l'] :=
  sort1_cl (E := EI) (cf := cmpI) (cb := #[]) (g := 30) (enc := Value.int .i64) (fun _ => rfl) (fun blk off cap d w hc hH hb hs => Any.slices_SortFunc Tryz.sortInt (Value.int .i64) (fun _ => rfl) cmpI swo_I 30 #[] blk off cap d w Tryz.call30 hc hH hb hs) (fun p cap fv w => AnyF.slices_SortFunc_none { Tryz.sortInt with } p cap fv w) (fun x y w1 => by rw [Array.append_empty]; exact c_Compare x y w1) S hl

/-- slices.Clone[[]int,int]. -/
theorem c_CloneInt (va : Value) (l : List Int) (hm : l.length ≤ 1000000000) (w : World) (hL : Rd EI w va l) :
    Cl Tryz.prog 70 #[va] w fun v w' => New w w' (vec EI v l) ∧ Le w w' := by
  refine fn_of_run (args := [_]) 8 Tryz.func70 rfl rfl rfl fun cs => ?_
  have S := Own.start (X := nob) w
  refine r_seq ?_
  refine r_region ?_
  refine l_x rfl (x_as rfl) ?_
  refine l_nil ?_
  refine r_seq ?_
  refine r_seq ?_
  refine r_region ?_
  refine l_x rfl (x_mv rfl) ?_
  refine l_nilsl (hL.le S.le) rfl rfl rfl Tryz.runUnderlying23 (fun t1 hnil4 => ?_)
  refine l_nil ?_
  refine r_if rfl (fun hc4 => ?_) (fun hc4 => ?_)
  · skip
    refine r_seq ?_
    refine r_region ?_
    refine l_x rfl (x_as rfl) ?_
    refine l_nil ?_
    refine r_ret (rs := [.tmp 2]) [_] Tryz.func70 rfl ⟨rfl, trivial⟩ ?_
    exact ⟨by rw [hnil4 hc4]; exact New.nilvec .., S.le⟩
  refine r_skip ?_
  refine r_seq ?_
  refine r_region ?_
  refine l_buildSlice EI [] S rfl Tryz.runUnderlying23 Tryz.sizeOf3 Tryz.zeroValue3 rfl trivial (Nat.le_of_ble_eq_true rfl) ?_
  intro v5 w2 S3 hl4
  refine l_x rfl (x_mv rfl) ?_
  refine l_append EI S3 0 rfl rfl rfl rfl (hL.le S3.le) Tryz.underlying23 info3 rfl rfl rfl (by unfold maxLen; rw [List.length_nil]; omega) (by rw [List.length_nil]; show _ * 8 ≤ _; omega) ?_
  intro v9 w6 S7 hk8 hv10
  refine l_x rfl (x_as rfl) ?_
  refine l_nil ?_
  refine r_ret (rs := [.tmp 2]) [_] Tryz.func70 rfl ⟨rfl, trivial⟩ ?_
  exact ⟨S7.new 0 rfl, S7.le⟩

/-- couchant/deed.sorted[int]. -/
theorem c_sortedInt (va : Value) (l : List Int) (hm : l.length ≤ 1000000000) (w : World) (hL : Rd EI w va l) :
    Cl Tryz.prog 47 #[va, .func (.func 30) #[] #[]] w fun v w' => ∃ l', l'.Perm l ∧ SortedL cmpI l' ∧ New w w' (vec EI v l') ∧ Le w w' := by
  refine fn_of_run (args := [_, _]) 12 Tryz.func47 rfl rfl rfl fun cs => ?_
  have S := Own.start (X := nob) w
  refine r_seq ?_
  refine r_region ?_
  refine l_x rfl (x_as rfl) ?_
  refine l_nil ?_
  refine r_seq ?_
  refine r_region ?_
  refine l_x rfl (x_mv rfl) ?_
  refine l_call [] [] [_] rfl rfl Tryz.call70 rfl (c_CloneInt _ _ hm _ (hL.le S.le)) ?_
  rintro v71 w1 ⟨hN71, hl71⟩
  have S2 := S.add hl71 hN71
  refine l_x rfl (x_as rfl) ?_
  refine l_nil ?_
  refine r_seq ?_
  refine r_region ?_
  refine l_x rfl (x_mv rfl) ?_
  refine l_x rfl (x_mv rfl) ?_
  refine l_call [] [] [_, _] rfl rfl Tryz.call79 rfl (c_SortInt _ _ _ (S2.lend 0 rfl) (by omega)) ?_
  rintro _ w3 ⟨l', hp', hs', h4⟩
  have S5 := S2.back 0 rfl h4
  refine l_nil ?_
  refine r_seq ?_
  refine r_region ?_
  refine l_x rfl (x_mv rfl) ?_
  refine l_x rfl (x_as rfl) ?_
  refine l_nil ?_
  refine r_ret (rs := [.tmp 4]) [_] Tryz.func47 rfl ⟨rfl, trivial⟩ ?_
  exact ⟨l', hp', hs', S5.new 0 rfl, S5.le⟩

end Go.Proofs

/-
  Contracts of functions of the program: each by symbolic execution of its text.
-/
namespace Go.Proofs
open Go Go.Vk Go.Vk.Flow

open Go.Vk.Deed

set_option maxHeartbeats 2000000 in
/-- couchant/deed.counting. -/
theorem c_counting (rs : List Rw) (vl : Value) (known : Int) (hA : Asc (dl rs)) (hml4 : rs.length ≤ 400) (w : World) (hD : DsR 45 3 w vl rs) :
    Cl Tryz.prog 41 #[vl, .int .i64 known] w fun v w' => ∃ rs', dl rs' = counting (dl rs) known ∧ (∀ a ∈ rs', a ∈ rs) ∧ New w w' (vec ED v rs') ∧ Le w w' := by
  have hml := hD.lm
  have hfl := fun i => List.length_filter_le (fun a : Rw => counts (dl rs) known a.1) (rs.take i)
  have hfl8 := hfl rs.length
  rw [List.length_take, Nat.min_self] at hfl8
  refine fn_of_run (args := [_, _]) 60 Tryz.func41 rfl rfl rfl fun cs => ?_
  have S := Own.start (X := nob) w
  refine r_seq ?_
  refine r_region ?_
  refine l_x rfl (x_as rfl) ?_
  refine l_nil ?_
  refine r_seq ?_
  refine r_region ?_
  refine l_makeMap kInt Value.bool S rfl ?_
  intro m4 w1 S2 hl3
  refine l_x rfl (x_as rfl) ?_
  refine l_nil ?_
  refine r_seq ?_
  refine r_seq ?_
  refine r_region ?_
  refine l_x rfl (x_mv rfl) ?_
  refine l_x rfl (x_len (hD.rd.le S2.le) rfl Tryz.runUnderlying22) ?_
  refine l_x rfl (x_mv rfl) ?_
  refine l_nil ?_
  refine r_block ?_
  refine r_loop (G := Nat × List Int) (fun ⟨i, vs⟩ => rs.length - i) (fun ⟨i, vs⟩ => [(0, vl), (1, .int .i64 known), (5, .map (some m4)), (12, vl), (13, .int .i64 rs.length), (14, .int .i64 i)]) (fun ⟨i, vs⟩ w' => (i ≤ rs.length) ∧ (∀ id, vs.contains id = voided ((dl rs).take i) known id) ∧ Own nob w w' [mapr kInt Value.bool m4 (setM vs)]) (0, []) ⟨rfl, rfl, rfl, rfl, rfl, rfl, trivial⟩ ⟨Nat.zero_le _, (fun id => rfl), (by rw [← setM_nil]; exact S2)⟩ ?_
  rintro ⟨i, vs⟩ ρ w1 ⟨hi, hvo, S1⟩ IH
  refine r_seq ?_
  refine r_region ?_
  refine l_x rfl (x_lss rfl rfl) ?_
  refine l_nil ?_
  refine r_seq ?_
  refine r_ifd rfl (fun hc15 => ?_) (fun hc15 => ?_)
  · skip
    obtain ⟨a, ha⟩ : ∃ a, rs[i]? = some a := ⟨_, List.getElem?_eq_getElem (by omega)⟩
    have ham := List.mem_of_getElem? ha
    refine r_skip ?_
    refine r_seq ?_
    refine r_block ?_
    refine r_seq ?_
    refine r_region ?_
    refine l_index ED rfl (hD.rd.le S1.le) rfl rfl Tryz.runUnderlying22 Tryz.sizeOf45 (by omega) ha ?_
    intro b5 o6 hat7 row8
    refine l_x rfl (x_load rfl (ld_row Tryz.isAgg45 Tryz.sizeOf45 rfl row8)) ?_
    refine l_alloc S1 rfl Tryz.zeroValue45 rfl ?_
    intro b12 w9 S10 hl11
    refine l_stores S10 1 rfl rfl rfl rfl (ED.one _) Tryz.sizeOf45 (by first | exact Nat.le_refl _ | simp) (splice_all rfl) ?_
    intro w13 S14 hk15
    refine l_nil ?_
    refine r_seq ?_
    refine r_region ?_
    refine l_x rfl (x_fieldAddr rfl Tryz.runUnderlying45 rfl Tryz.sizeOf5 (by decide)) ?_
    refine l_x rfl (x_load rfl (ld_blk (S14.blk 1 rfl) Tryz.isAgg5 rfl)) ?_
    refine l_x rfl (x_eql rfl rfl) ?_
    refine l_x rfl (x_mv rfl) ?_
    refine l_splitd (d := 21) rfl (fun hg21 => ?_) (fun hg21 => ?_)
    · skip
      refine l_x rfl (x_fieldAddr rfl Tryz.runUnderlying45 rfl Tryz.sizeOf3 (by decide)) ?_
      refine l_x rfl (x_load rfl (ld_blk (S14.blk 1 rfl) Tryz.isAgg3 rfl)) ?_
      refine l_x rfl (x_mv rfl) ?_
      refine l_x rfl (x_leq rfl rfl) ?_
      refine l_x rfl (x_pick_t rfl rfl) ?_
      refine l_nil ?_
      refine r_ifd rfl (fun hc26 => ?_) (fun hc26 => ?_)
      · skip
        refine r_region ?_
        refine l_x rfl (x_mv rfl) ?_
        refine l_x rfl (x_fieldAddr rfl Tryz.runUnderlying45 rfl Tryz.sizeOf3 (by decide)) ?_
        refine l_x rfl (x_load rfl (ld_blk (S14.blk 1 rfl) Tryz.isAgg3 rfl)) ?_
        refine l_mapUpdate S14 0 rfl rfl keyI Tryz.runUnderlying86 rfl rfl rfl ?_
        intro w16 S17 hk18
        refine l_nil ?_
        refine r_inBlock ?_
        refine r_region ?_
        refine l_x rfl (x_add rfl rfl (by omega)) ?_
        refine l_x rfl (x_mv rfl) ?_
        refine l_nil ?_
        exact IH (i + 1, a.1.of :: vs) _ _ (by dsimp only; omega) ⟨rfl, rfl, rfl, rfl, rfl, rfl, trivial⟩ ⟨by omega, void_t (dl_get ha) (by omega) hvo, (by rw [← setM_cons]; exact S17.take 1)⟩
      refine r_skip ?_
      refine r_inBlock ?_
      refine r_region ?_
      refine l_x rfl (x_add rfl rfl (by omega)) ?_
      refine l_x rfl (x_mv rfl) ?_
      refine l_nil ?_
      exact IH (i + 1, vs) _ _ (by dsimp only; omega) ⟨rfl, rfl, rfl, rfl, rfl, rfl, trivial⟩ ⟨by omega, void_f (dl_get ha) (by omega) hvo, (S14.take 1)⟩
    refine l_pass rfl ?_
    refine l_pass rfl ?_
    refine l_pass rfl ?_
    refine l_pass rfl ?_
    refine l_x rfl (x_pick_f rfl rfl) ?_
    refine l_nil ?_
    refine r_false rfl ?_
    refine r_skip ?_
    refine r_inBlock ?_
    refine r_region ?_
    refine l_x rfl (x_add rfl rfl (by omega)) ?_
    refine l_x rfl (x_mv rfl) ?_
    refine l_nil ?_
    exact IH (i + 1, vs) _ _ (by dsimp only; omega) ⟨rfl, rfl, rfl, rfl, rfl, rfl, trivial⟩ ⟨by omega, void_f (dl_get ha) (by omega) hvo, (S14.take 1)⟩
  obtain rfl : i = rs.length := by omega
  rw [← dl_len (rs := rs), List.take_length] at hvo
  refine r_exit rfl ?_
  refine r_seq ?_
  refine r_region ?_
  refine l_x rfl (x_as rfl) ?_
  have S19 := S1.nilvec (E := ED)
  refine l_nil ?_
  refine r_seq ?_
  refine r_seq ?_
  refine r_region ?_
  refine l_x rfl (x_mv rfl) ?_
  refine l_x rfl (x_len (hD.rd.le S19.le) rfl Tryz.runUnderlying22) ?_
  refine l_x rfl (x_mv rfl) ?_
  refine l_nil ?_
  refine r_block ?_
  refine r_loop (G := Nat × Value) (fun ⟨i, vo⟩ => rs.length - i) (fun ⟨i, vo⟩ => [(1, .int .i64 known), (5, .map (some m4)), (8, vo), (31, vl), (32, .int .i64 rs.length), (33, .int .i64 i)]) (fun ⟨i, vo⟩ w' => (i ≤ rs.length) ∧ Own nob w w' [mapr kInt Value.bool m4 (setM vs), vec ED vo ((rs.take i).filter (fun a : Rw => counts (dl rs) known a.1))]) (0, .slice none 0 0) ⟨rfl, rfl, rfl, rfl, rfl, rfl, trivial⟩ ⟨Nat.zero_le _, (S19.take 2)⟩ ?_
  rintro ⟨i, vo⟩ ρ w1b ⟨hi, S1b⟩ IHb
  refine r_seq ?_
  refine r_region ?_
  refine l_x rfl (x_lss rfl rfl) ?_
  refine l_nil ?_
  refine r_seq ?_
  refine r_ifd rfl (fun hc34 => ?_) (fun hc34 => ?_)
  · skip
    obtain ⟨a, ha⟩ : ∃ a, rs[i]? = some a := ⟨_, List.getElem?_eq_getElem (by omega)⟩
    have ham := List.mem_of_getElem? ha
    refine r_skip ?_
    refine r_seq ?_
    refine r_block ?_
    refine r_seq ?_
    refine r_region ?_
    refine l_index ED rfl (hD.rd.le S1b.le) rfl rfl Tryz.runUnderlying22 Tryz.sizeOf45 (by omega) ha ?_
    intro b20 o21 hat22 row23
    refine l_x rfl (x_load rfl (ld_row Tryz.isAgg45 Tryz.sizeOf45 rfl row23)) ?_
    refine l_alloc S1b rfl Tryz.zeroValue45 rfl ?_
    intro b27 w24 S25 hl26
    refine l_stores S25 2 rfl rfl rfl rfl (ED.one _) Tryz.sizeOf45 (by first | exact Nat.le_refl _ | simp) (splice_all rfl) ?_
    intro w28 S29 hk30
    refine l_nil ?_
    refine r_seq ?_
    refine r_region ?_
    refine l_x rfl (x_fieldAddr rfl Tryz.runUnderlying45 rfl Tryz.sizeOf5 (by decide)) ?_
    refine l_x rfl (x_load rfl (ld_blk (S29.blk 2 rfl) Tryz.isAgg5 rfl)) ?_
    refine l_x rfl (x_neq rfl rfl) ?_
    refine l_x rfl (x_mv rfl) ?_
    refine l_splitd (d := 40) rfl (fun hg40 => ?_) (fun hg40 => ?_)
    · skip
      refine l_x rfl (x_fieldAddr rfl Tryz.runUnderlying45 rfl Tryz.sizeOf3 (by decide)) ?_
      refine l_x rfl (x_load rfl (ld_blk (S29.blk 2 rfl) Tryz.isAgg3 rfl)) ?_
      refine l_x rfl (x_mv rfl) ?_
      refine l_x rfl (x_leq rfl rfl) ?_
      refine l_x rfl (x_pick_t rfl rfl) ?_
      refine l_x rfl (x_mv rfl) ?_
      refine l_splitd (d := 46) rfl (fun hg46 => ?_) (fun hg46 => ?_)
      · skip
        refine l_x rfl (x_mv rfl) ?_
        refine l_x rfl (x_fieldAddr rfl Tryz.runUnderlying45 rfl Tryz.sizeOf3 (by decide)) ?_
        refine l_x rfl (x_load rfl (ld_blk (S29.blk 2 rfl) Tryz.isAgg3 rfl)) ?_
        refine l_x rfl (x_lookup (S29.at 0 rfl) keyI Tryz.runUnderlying86 rfl rfl Tryz.zeroValue4 setM_get) ?_
        refine l_x rfl (x_not rfl) ?_
        refine l_x rfl (x_pick_t rfl rfl) ?_
        refine l_nil ?_
        refine r_if rfl (fun hc52 => ?_) (fun hc52 => ?_)
        · skip
          refine r_region ?_
          refine l_x rfl (x_mv rfl) ?_
          refine l_x rfl (x_load rfl (ld_blks (S29.blk 2 rfl) Tryz.isAgg45 Tryz.sizeOf45 rfl rfl)) ?_
          refine l_buildSlice ED [a] S29 rfl Tryz.runUnderlying22 Tryz.sizeOf45 Tryz.zeroValue45 rfl ⟨rfl, rfl, trivial⟩ (Nat.le_of_ble_eq_true rfl) ?_
          intro v34 w31 S32 hl33
          refine l_append ED S32 1 rfl rfl rfl rfl (vec_rd (S32.at 3 rfl)) Tryz.underlying22 info45 rfl rfl rfl (by have := hfl i; rw [List.length_take] at this; unfold maxLen; simp; omega) (by have := hfl i; rw [List.length_take] at this; show _ * 120 ≤ _; simp; omega) ?_
          intro v38 w35 S36 hk37 hv39
          refine l_x rfl (x_as rfl) ?_
          refine l_nil ?_
          refine r_inBlock ?_
          refine r_region ?_
          refine l_x rfl (x_add rfl rfl (by omega)) ?_
          refine l_x rfl (x_mv rfl) ?_
          refine l_nil ?_
          exact IHb (i + 1, v38) _ _ (by dsimp only; omega) ⟨rfl, rfl, rfl, rfl, rfl, rfl, trivial⟩ ⟨by omega, (by rw [filter_step ha, if_pos (by simp only [counts]; first | (simp_all; done) | (simp_all; intros; omega))]; exact S36.take 2)⟩
        refine r_skip ?_
        refine r_inBlock ?_
        refine r_region ?_
        refine l_x rfl (x_add rfl rfl (by omega)) ?_
        refine l_x rfl (x_mv rfl) ?_
        refine l_nil ?_
        exact IHb (i + 1, vo) _ _ (by dsimp only; omega) ⟨rfl, rfl, rfl, rfl, rfl, rfl, trivial⟩ ⟨by omega, (by rw [filter_step ha, if_neg (by simp only [counts]; first | (simp_all; done) | (simp_all; intros; omega))]; rw [List.append_nil]; exact S29.take 2)⟩
      refine l_pass rfl ?_
      refine l_pass rfl ?_
      refine l_pass rfl ?_
      refine l_pass rfl ?_
      refine l_pass rfl ?_
      refine l_x rfl (x_pick_f rfl rfl) ?_
      refine l_nil ?_
      refine r_false rfl ?_
      refine r_skip ?_
      refine r_inBlock ?_
      refine r_region ?_
      refine l_x rfl (x_add rfl rfl (by omega)) ?_
      refine l_x rfl (x_mv rfl) ?_
      refine l_nil ?_
      exact IHb (i + 1, vo) _ _ (by dsimp only; omega) ⟨rfl, rfl, rfl, rfl, rfl, rfl, trivial⟩ ⟨by omega, (by rw [filter_step ha, if_neg (by simp only [counts]; first | (simp_all; done) | (simp_all; intros; omega))]; rw [List.append_nil]; exact S29.take 2)⟩
    refine l_pass rfl ?_
    refine l_pass rfl ?_
    refine l_pass rfl ?_
    refine l_pass rfl ?_
    refine l_x rfl (x_pick_f rfl rfl) ?_
    refine l_x rfl (x_mv rfl) ?_
    refine l_pass rfl ?_
    refine l_pass rfl ?_
    refine l_pass rfl ?_
    refine l_pass rfl ?_
    refine l_pass rfl ?_
    refine l_x rfl (x_pick_f rfl rfl) ?_
    refine l_nil ?_
    refine r_false rfl ?_
    refine r_skip ?_
    refine r_inBlock ?_
    refine r_region ?_
    refine l_x rfl (x_add rfl rfl (by omega)) ?_
    refine l_x rfl (x_mv rfl) ?_
    refine l_nil ?_
    exact IHb (i + 1, vo) _ _ (by dsimp only; omega) ⟨rfl, rfl, rfl, rfl, rfl, rfl, trivial⟩ ⟨by omega, (by rw [filter_step ha, if_neg (by simp only [counts]; first | (simp_all; done) | (simp_all; intros; omega))]; rw [List.append_nil]; exact S29.take 2)⟩
  obtain rfl : i = rs.length := by omega
  refine r_exit rfl ?_
  refine r_seq ?_
  refine r_region ?_
  refine l_x rfl (x_mv rfl) ?_
  refine l_call [] [] [_, _] rfl rfl Tryz.call71 rfl (c_sortedDeed _ _ (by omega) _ (vec_rd (S1b.at 1 rfl))) ?_
  rintro v5940 w40 ⟨l5940, hp5940, hs5940, hN5940, hl5940⟩
  have S41 := S1b.add hl5940 hN5940
  refine l_x rfl (x_as rfl) ?_
  refine l_nil ?_
  refine r_ret (rs := [.tmp 4]) [_] Tryz.func41 rfl ⟨rfl, trivial⟩ ?_
  exact ⟨l5940, by rw [order_of hp5940 hs5940 (by rw [List.take_length, dl_filter]; exact asc_filter hA _), List.take_length, dl_filter]; rfl, fun a ha => by have := hp5940.mem_iff.1 ha; rw [List.take_length] at this; exact (List.mem_filter.1 this).1, S41.new 2 rfl, S41.le⟩

end Go.Proofs

/-
  Contracts of functions of the program: each by symbolic execution of its text.
-/
namespace Go.Proofs
open Go Go.Vk Go.Vk.Flow

open Go.Vk.Deed

theorem count_len {l : List D} {known : Int} (h : rightD l = true) : (counting l known).length ≤ 400 := by
  have h1 := (order_perm (l.filter (counts l known))).length_eq
  have h2 := List.length_filter_le (counts l known) l
  have h3 := right_len h
  rw [counting]; omega
end Go.Proofs

/-
  Contracts of functions of the program: each by symbolic execution of its text.
-/
namespace Go.Proofs
open Go Go.Vk Go.Vk.Flow

open Go.Vk.Deed
def acInts (a : Acc) : List Int := [a.owner, a.holds, a.pledged, a.out, a.inn]
theorem map_get0 {f : Int → Option Int} {k x : Int} (h : (f k).getD 0 = x) : (f k).elim (.int .i64 0) kInt = .int .i64 x := by
  cases hf : f k <;> rw [hf] at h <;> simp at h <;> simp [h]

/-- (*couchant/deed.roll).out. -/
theorem c_out (b : Nat) (n : Nm) (s : St) (hs : Int → Option Int) (pf : Int → Option Pl) (sf : Int → Int → Option Int) (o day : Int) (hB : StB s) (w : World) (hR : RollRO TY b n s hs pf sf w) :
    Cl Tryz.prog 91 #[.pointer (some ⟨b, 0, none⟩), .int .i64 o, .int .i64 day] w fun v w' => v = .int .i64 (outS s o day) ∧ Le w w' := by
  have hll := hB.ll
  refine fn_of_run (args := [_, _, _]) 40 Tryz.func91 rfl rfl rfl fun cs => ?_
  have S := Own.start (X := nob) w
  refine r_seq ?_
  refine r_region ?_
  refine l_x rfl (x_as rfl) ?_
  refine l_nil ?_
  refine r_seq ?_
  refine r_region ?_
  refine l_x rfl (x_as rfl) ?_
  refine l_nil ?_
  refine r_seq ?_
  refine r_seq ?_
  refine r_region ?_
  refine l_x rfl (x_mv rfl) ?_
  refine l_x rfl (x_nilCheck rfl) ?_
  refine l_x rfl (x_fieldAddr rfl Tryz.runUnderlying81 rfl Tryz.sizeOf77 (by decide)) ?_
  refine l_x rfl (x_load rfl (ld_blk (hR.blk.keep S.le id) Tryz.isAgg77 rfl)) ?_
  refine l_x rfl (x_len (hR.le S.le).lm rfl Tryz.runUnderlying77) ?_
  refine l_x rfl (x_mv rfl) ?_
  refine l_nil ?_
  refine r_block ?_
  refine r_loop (G := Nat) (fun i => s.leases.length - i) (fun i => [(1, .int .i64 o), (2, .int .i64 day), (7, .int .i64 (sumF (fun x : Ls => decide (x.frm = o ∧ x.day ≤ day ∧ day ≤ x.stop)) (·.parts) (s.leases.take i))), (13, n.lv), (14, .int .i64 s.leases.length), (15, .int .i64 i)]) (fun i w' => (i ≤ s.leases.length) ∧ Own nob w w' []) 0 ⟨rfl, rfl, rfl, rfl, rfl, rfl, trivial⟩ ⟨Nat.zero_le _, (S.take 0)⟩ ?_
  rintro i ρ w1 ⟨hi, S1⟩ IH
  have hbd := hB.out (o := o) (day := day) i
  refine r_seq ?_
  refine r_region ?_
  refine l_x rfl (x_lss rfl rfl) ?_
  refine l_nil ?_
  refine r_seq ?_
  refine r_ifd rfl (fun hc16 => ?_) (fun hc16 => ?_)
  · skip
    obtain ⟨x, hx⟩ : ∃ x, s.leases[i]? = some x := ⟨_, List.getElem?_eq_getElem (by omega)⟩
    have hxb := hB.lp x (List.mem_of_getElem? hx)
    refine r_skip ?_
    refine r_seq ?_
    refine r_block ?_
    refine r_seq ?_
    refine r_region ?_
    refine l_index ELS rfl (hR.le S1.le).lm rfl rfl Tryz.runUnderlying77 Tryz.sizeOf135 (by omega) hx ?_
    intro b1 o2 hat3 row4
    refine l_x rfl (x_load rfl (ld_row Tryz.isAgg135 Tryz.sizeOf135 rfl row4)) ?_
    refine l_alloc S1 rfl Tryz.zeroValue135 rfl ?_
    intro b8 w5 S6 hl7
    refine l_stores S6 0 rfl rfl rfl rfl (ELS.one _) Tryz.sizeOf135 (by first | exact Nat.le_refl _ | simp) (splice_all rfl) ?_
    intro w9 S10 hk11
    refine l_nil ?_
    refine r_seq ?_
    refine r_region ?_
    refine l_x rfl (x_fieldAddr rfl Tryz.runUnderlying135 rfl Tryz.sizeOf133 (by decide)) ?_
    refine l_x rfl (x_fieldAddr rfl Tryz.runUnderlying133 rfl Tryz.sizeOf3 (by decide)) ?_
    refine l_x rfl (x_load rfl (ld_blk (S10.blk 0 rfl) Tryz.isAgg3 rfl)) ?_
    refine l_x rfl (x_mv rfl) ?_
    refine l_x rfl (x_eql rfl rfl) ?_
    refine l_x rfl (x_mv rfl) ?_
    refine l_splitd (d := 24) rfl (fun hg24 => ?_) (fun hg24 => ?_)
    · skip
      refine l_x rfl (x_mv rfl) ?_
      refine l_x rfl (x_fieldAddr rfl Tryz.runUnderlying135 rfl Tryz.sizeOf3 (by decide)) ?_
      refine l_x rfl (x_load rfl (ld_blk (S10.blk 0 rfl) Tryz.isAgg3 rfl)) ?_
      refine l_x rfl (x_fieldAddr rfl Tryz.runUnderlying135 rfl Tryz.sizeOf133 (by decide)) ?_
      refine l_x rfl (x_fieldAddr rfl Tryz.runUnderlying133 rfl Tryz.sizeOf3 (by decide)) ?_
      refine l_x rfl (x_load rfl (ld_blk (S10.blk 0 rfl) Tryz.isAgg3 rfl)) ?_
      refine l_call [] [] [_, _, _] rfl rfl Tryz.call76 rfl (c_in _ _ _ _) ?_
      rintro _ w12 ⟨rfl, hl14⟩
      have S13 := S10.step hl14
      refine l_x rfl (x_pick_t rfl rfl) ?_
      refine l_nil ?_
      refine r_if rfl (fun hc32 => ?_) (fun hc32 => ?_)
      · skip
        refine r_region ?_
        refine l_x rfl (x_mv rfl) ?_
        refine l_x rfl (x_fieldAddr rfl Tryz.runUnderlying135 rfl Tryz.sizeOf133 (by decide)) ?_
        refine l_x rfl (x_fieldAddr rfl Tryz.runUnderlying133 rfl Tryz.sizeOf3 (by decide)) ?_
        refine l_x rfl (x_load rfl (ld_blk (S13.blk 0 rfl) Tryz.isAgg3 rfl)) ?_
        refine l_x rfl (x_add rfl rfl (by omega)) ?_
        refine l_x rfl (x_as rfl) ?_
        refine l_nil ?_
        refine r_inBlock ?_
        refine r_region ?_
        refine l_x rfl (x_add rfl rfl (by omega)) ?_
        refine l_x rfl (x_mv rfl) ?_
        refine l_nil ?_
        exact IH (i + 1) _ _ (by omega) ⟨rfl, rfl, (congrArg (Value.int .i64) (by rw [sumF_take hx, if_pos (by simp only [decide_eq_true_eq]; first | omega | (simp [rng] at hc32; omega))])), rfl, rfl, rfl, trivial⟩ ⟨by omega, (S13.take 0)⟩
      refine r_skip ?_
      refine r_inBlock ?_
      refine r_region ?_
      refine l_x rfl (x_add rfl rfl (by omega)) ?_
      refine l_x rfl (x_mv rfl) ?_
      refine l_nil ?_
      exact IH (i + 1) _ _ (by omega) ⟨rfl, rfl, (congrArg (Value.int .i64) (by rw [sumF_take hx, if_neg (by simp only [decide_eq_true_eq]; first | omega | (simp [rng] at hc32; omega))]; omega)), rfl, rfl, rfl, trivial⟩ ⟨by omega, (S13.take 0)⟩
    refine l_pass rfl ?_
    refine l_pass rfl ?_
    refine l_pass rfl ?_
    refine l_pass rfl ?_
    refine l_pass rfl ?_
    refine l_pass rfl ?_
    refine l_pass rfl ?_
    refine l_x rfl (x_pick_f rfl rfl) ?_
    refine l_nil ?_
    refine r_false rfl ?_
    refine r_skip ?_
    refine r_inBlock ?_
    refine r_region ?_
    refine l_x rfl (x_add rfl rfl (by omega)) ?_
    refine l_x rfl (x_mv rfl) ?_
    refine l_nil ?_
    exact IH (i + 1) _ _ (by omega) ⟨rfl, rfl, (congrArg (Value.int .i64) (by rw [sumF_take hx, if_neg (by simp only [decide_eq_true_eq]; first | omega | (simp [rng] at hc32; omega))]; omega)), rfl, rfl, rfl, trivial⟩ ⟨by omega, (S10.take 0)⟩
  obtain rfl : i = s.leases.length := by omega
  refine r_exit rfl ?_
  refine r_seq ?_
  refine r_region ?_
  refine l_x rfl (x_mv rfl) ?_
  refine l_x rfl (x_as rfl) ?_
  refine l_nil ?_
  refine r_ret (rs := [.tmp 6]) [_] Tryz.func91 rfl ⟨rfl, trivial⟩ ?_
  exact ⟨congrArg (Value.int .i64) (by rw [List.take_length]; rfl), S1.le⟩

theorem plV_inj : ∀ a a', plV a = plV a' → a = a' := fun a b h => by
  obtain ⟨a1, a2, a3, a4⟩ := a
  obtain ⟨b1, b2, b3, b4⟩ := b
  simp only [plV, encPl, i64, Value.agg.injEq] at h
  have h' := congrArg Array.toList h
  simp at h'
  simp [h']

/-- (*couchant/deed.roll).pledged. -/
theorem c_pledged (b : Nat) (n : Nm) (s : St) (hs : Int → Option Int) (pf : Int → Option Pl) (sf : Int → Int → Option Int) (o : Int) (hB : StB s) (w : World) (hR : RollRO TY b n s hs pf sf w) :
    Cl Tryz.prog 90 #[.pointer (some ⟨b, 0, none⟩), .int .i64 o] w fun v w' => v = .int .i64 (pledged s o) ∧ Le w w' := by
  obtain ⟨es, clock, hm, hM⟩ := hR.pm
  refine fn_of_run (args := [_, _]) 26 Tryz.func90 rfl rfl rfl fun cs => ?_
  have S := Own.start (X := nob) w
  refine r_seq ?_
  refine r_region ?_
  refine l_x rfl (x_as rfl) ?_
  refine l_nil ?_
  refine r_seq ?_
  refine r_region ?_
  refine l_x rfl (x_as rfl) ?_
  refine l_nil ?_
  refine r_seq ?_
  refine r_seq ?_
  refine r_region ?_
  refine l_x rfl (x_mv rfl) ?_
  refine l_x rfl (x_nilCheck rfl) ?_
  refine l_x rfl (x_fieldAddr rfl Tryz.runUnderlying81 rfl Tryz.sizeOf78 (by decide)) ?_
  refine l_x rfl (x_load rfl (ld_blk (hR.blk.keep S.le id) Tryz.isAgg78 rfl)) ?_
  refine l_range kInt plV S rfl Tryz.runUnderlying78 rfl (he_le hm S.le) ?_
  intro it4 w1 S2 hl3
  refine l_nil ?_
  refine r_block ?_
  refine r_loop (G := List (Int × Pl)) (fun vis => es.size - vis.length) (fun vis => [(1, .int .i64 o), (5, .int .i64 (sumF (fun x : Pl => decide (x.frm = o)) (·.parts) (vis.map (·.2)))), (12, .pointer (some ⟨it4, 0, none⟩))]) (fun vis w' => (Vis pf vis) ∧ Own nob w w' [itr kInt plV it4 n.p es clock vis]) [] ⟨rfl, rfl, rfl, trivial⟩ ⟨.nil, (S2.take 1)⟩ ?_
  rintro vis ρ w1 ⟨hV, S1⟩ IH
  have hbd := vis_bd (o := o) hB hR.ok.p hV
  refine r_seq ?_
  refine r_region ?_
  refine l_next S1 0 rfl rfl keyI plV_inj hM rfl (he_le hm S1.le) (fun hAll => ?_) (fun c a w5 hfc hnew S6 hk7 => ?_)
  · skip
    refine l_x rfl (x_extract rfl rfl) ?_
    refine l_nil ?_
    refine r_seq ?_
    refine r_false rfl ?_
    refine r_exit rfl ?_
    refine r_seq ?_
    refine r_region ?_
    refine l_x rfl (x_mv rfl) ?_
    refine l_x rfl (x_as rfl) ?_
    refine l_nil ?_
    refine r_ret (rs := [.tmp 4]) [_] Tryz.func90 rfl ⟨rfl, trivial⟩ ?_
    exact ⟨congrArg (Value.int .i64) (pledged_of hB hR.ok.p hV hAll), S1.le⟩
  have hlen := itr_len (S6.at 0 rfl)
  rw [List.length_append, List.length_singleton] at hlen
  have hV2 := hV.step hfc hnew
  have hbd2 := vis_bd (o := o) hB hR.ok.p hV2
  have hab := hB.pp a (plOf_mem (by rw [← hR.ok.p]; exact hfc)).1
  refine l_x rfl (x_extract rfl rfl) ?_
  refine l_nil ?_
  refine r_seq ?_
  refine r_true rfl ?_
  refine r_skip ?_
  refine r_block ?_
  refine r_seq ?_
  refine r_region ?_
  refine l_x rfl (x_entry (S6.at 0 rfl) hM (he_le hm S6.le) rfl) ?_
  refine l_x rfl (x_extract rfl rfl) ?_
  refine l_alloc S6 rfl Tryz.zeroValue154 rfl ?_
  intro b11 w8 S9 hl10
  refine l_stores S9 1 rfl rfl rfl rfl (EPL.one _) Tryz.sizeOf154 (by first | exact Nat.le_refl _ | simp) (splice_all rfl) ?_
  intro w12 S13 hk14
  refine l_nil ?_
  refine r_seq ?_
  refine r_region ?_
  refine l_x rfl (x_fieldAddr rfl Tryz.runUnderlying154 rfl Tryz.sizeOf3 (by decide)) ?_
  refine l_x rfl (x_load rfl (ld_blk (S13.blk 1 rfl) Tryz.isAgg3 rfl)) ?_
  refine l_x rfl (x_mv rfl) ?_
  refine l_x rfl (x_eql rfl rfl) ?_
  refine l_nil ?_
  refine r_ifd rfl (fun hc20 => ?_) (fun hc20 => ?_)
  · skip
    refine r_region ?_
    refine l_x rfl (x_mv rfl) ?_
    refine l_x rfl (x_fieldAddr rfl Tryz.runUnderlying154 rfl Tryz.sizeOf3 (by decide)) ?_
    refine l_x rfl (x_load rfl (ld_blk (S13.blk 1 rfl) Tryz.isAgg3 rfl)) ?_
    refine l_x rfl (x_add rfl rfl (by omega)) ?_
    refine l_x rfl (x_as rfl) ?_
    refine l_nil ?_
    refine r_inBlock ?_
    exact IH (vis ++ [(c, a)]) _ _ (by rw [List.length_append, List.length_singleton]; omega) ⟨rfl, (congrArg (Value.int .i64) (by rw [List.map_append, List.map_cons, List.map_nil, sumF_snoc, if_pos (by simpa using hc20)])), rfl, trivial⟩ ⟨hV2, (S13.take 1)⟩
  refine r_skip ?_
  refine r_inBlock ?_
  exact IH (vis ++ [(c, a)]) _ _ (by rw [List.length_append, List.length_singleton]; omega) ⟨rfl, (congrArg (Value.int .i64) (by rw [List.map_append, List.map_cons, List.map_nil, sumF_snoc, if_neg (by simpa using hc20)]; omega)), rfl, trivial⟩ ⟨hV2, (S13.take 1)⟩

/-- (*couchant/deed.roll).free. -/
theorem c_free (b : Nat) (n : Nm) (s : St) (hs : Int → Option Int) (pf : Int → Option Pl) (sf : Int → Int → Option Int) (o day : Int) (hB : StB s) (w : World) (hR : RollRO TY b n s hs pf sf w) :
    Cl Tryz.prog 156 #[.pointer (some ⟨b, 0, none⟩), .int .i64 o, .int .i64 day] w fun v w' => v = .int .i64 (free s o day) ∧ Le w w' := by
  have hb1 := hB.outS (o := o) (day := day)
  have hb2 := hB.pledged (o := o)
  have hb3 := hB.hb o
  refine fn_of_run (args := [_, _, _]) 22 Tryz.func156 rfl rfl rfl fun cs => ?_
  have S := Own.start (X := nob) w
  refine r_seq ?_
  refine r_region ?_
  refine l_x rfl (x_as rfl) ?_
  refine l_nil ?_
  refine r_seq ?_
  refine r_drawR 16 Tryz.mixed (by kernel_rfl) ?_
  refine w_x rfl (fun w1 h1 => x_mv rfl) ?_
  refine w_x rfl (fun w1 h1 => x_nilCheck rfl) ?_
  refine w_x rfl (fun w1 h1 => x_fieldAddr rfl Tryz.runUnderlying81 rfl Tryz.sizeOf76 (by decide)) ?_
  refine w_x rfl (fun w1 h1 => x_load rfl (ld_blk (hR.blk.keep (S.step h1).le id) Tryz.isAgg76 rfl)) ?_
  refine w_x rfl (fun w1 h1 => x_mv rfl) ?_
  refine w_x rfl (fun w1 h1 => x_lookup (hR.le (S.step h1).le).hm keyI Tryz.runUnderlying76 rfl rfl Tryz.zeroValue3 (map_get0 (hR.ok.h o))) ?_
  refine w_x rfl (fun w1 h1 => x_mv rfl) ?_
  refine w_x rfl (fun w1 h1 => x_mv rfl) ?_
  refine w_x rfl (fun w1 h1 => x_mv rfl) ?_
  refine wd_call [] [] [_, _, _] rfl rfl Tryz.call91 rfl (fun w1 h1 => c_out b n s hs pf sf _ _ hB _ (hR.le (S.step h1).le)) ?_
  refine w_x rfl (fun w1 h1 => x_sub rfl rfl (by omega)) ?_
  refine w_x rfl (fun w1 h1 => x_mv rfl) ?_
  refine w_x rfl (fun w1 h1 => x_mv rfl) ?_
  refine wd_call [] [] [_, _] rfl rfl Tryz.call90 rfl (fun w1 h1 => c_pledged b n s hs pf sf _ hB _ (hR.le (S.step h1).le)) ?_
  refine w_x rfl (fun w1 h1 => x_sub rfl rfl (by omega)) ?_
  refine w_x rfl (fun w1 h1 => x_as rfl) ?_
  refine w_nil ?_
  intro w1 hl2
  have S3 := S.step hl2
  refine l_nil ?_
  refine r_ret (rs := [.tmp 6]) [_] Tryz.func156 rfl ⟨rfl, trivial⟩ ?_
  exact ⟨rfl, S3.le⟩

end Go.Proofs

/-
  Contracts of functions of the program: each by symbolic execution of its text.
-/
namespace Go.Proofs
open Go Go.Vk Go.Vk.Flow

open Go.Vk.Deed

set_option maxHeartbeats 2000000 in
/-- (*couchant/deed.roll).entered. -/
theorem c_entered (b : Nat) (n : Nm) (s : St) (hs : Int → Option Int) (pf : Int → Option Pl) (sf : Int → Int → Option Int) (o : Int) (w : World) (hR : RollRO TY b n s hs pf sf w) :
    Cl Tryz.prog 162 #[.pointer (some ⟨b, 0, none⟩), .int .i64 o] w fun v w' => New w w' (vec EI v (idsS s o)) ∧ Le w w' := by
  refine fn_of_run (args := [_, _]) 28 Tryz.func162 rfl rfl rfl fun cs => ?_
  have S := Own.start (X := nob) w
  refine r_seq ?_
  refine r_region ?_
  refine l_x rfl (x_as rfl) ?_
  refine l_nil ?_
  refine r_seq ?_
  refine r_region ?_
  refine l_x rfl (x_as rfl) ?_
  have S1 := S.nilvec (E := EI)
  refine l_nil ?_
  refine r_seq ?_
  refine r_seq ?_
  rcases hin : n.inn o with _ | mm
  · skip
    have hel : ([] : List Int).length ≤ 1000000000 := Nat.zero_le _
    have h0 : ∀ i, sf o i = none := hR.ok.none o hin
    refine r_region ?_
    refine l_x rfl (x_mv rfl) ?_
    refine l_x rfl (x_nilCheck rfl) ?_
    refine l_x rfl (x_fieldAddr rfl Tryz.runUnderlying81 rfl Tryz.sizeOf79 (by decide)) ?_
    refine l_x rfl (x_load rfl (ld_blk (hR.blk.keep S1.le id) Tryz.isAgg79 rfl)) ?_
    refine l_x rfl (x_mv rfl) ?_
    refine l_x rfl (x_lookup (hR.le S1.le).sm keyI Tryz.runUnderlying79 rfl rfl Tryz.zeroValue76 (by rw [hin] <;> rfl)) ?_
    refine l_range0 S1 rfl Tryz.runUnderlying76 rfl ?_
    intro it5 w2 S3 hl4
    refine l_nil ?_
    refine r_block ?_
    refine r_loop0 ?_
    refine r_seq ?_
    refine r_region ?_
    refine l_x rfl (x_next0 rfl (S3.obj 1 rfl)) ?_
    refine l_x rfl (x_extract rfl rfl) ?_
    refine l_nil ?_
    refine r_seq ?_
    refine r_false rfl ?_
    refine r_exit rfl ?_
    refine r_seq ?_
    refine r_region ?_
    refine l_x rfl (x_mv rfl) ?_
    refine l_call [] [] [_, _] rfl rfl Tryz.call47 rfl (c_sortedInt _ _ hel _ (vec_rd (S3.at 0 rfl))) ?_
    rintro v276 w6 ⟨l276, hp276, hs276, hN276, hl276⟩
    have S7 := S3.add hl276 hN276
    refine l_x rfl (x_as rfl) ?_
    refine l_nil ?_
    refine r_ret (rs := [.tmp 4]) [_] Tryz.func162 rfl ⟨rfl, trivial⟩ ?_
    obtain rfl : l276 = idsS s o := (asc_of hp276 hs276).trans (entered_of (s := s) (o := o) (hR.ok.s o) (hR.ok.ids o) (.nil : Vis (sf o) []) (fun k a h => by rw [h0] at h; cases h))
    exact ⟨S7.new 2 rfl, S7.le⟩
  obtain ⟨es, clock, hm, hM⟩ := hR.em hin
  refine r_region ?_
  refine l_x rfl (x_mv rfl) ?_
  refine l_x rfl (x_nilCheck rfl) ?_
  refine l_x rfl (x_fieldAddr rfl Tryz.runUnderlying81 rfl Tryz.sizeOf79 (by decide)) ?_
  refine l_x rfl (x_load rfl (ld_blk (hR.blk.keep S1.le id) Tryz.isAgg79 rfl)) ?_
  refine l_x rfl (x_mv rfl) ?_
  refine l_x rfl (x_lookup (hR.le S1.le).sm keyI Tryz.runUnderlying79 rfl rfl Tryz.zeroValue76 (by rw [hin] <;> rfl)) ?_
  refine l_range kInt kInt S1 rfl Tryz.runUnderlying76 rfl (he_le hm S1.le) ?_
  intro it11 w8 S9 hl10
  refine l_nil ?_
  refine r_block ?_
  refine r_loop (G := List (Int × Int) × Value) (fun ⟨vis, vo⟩ => es.size - vis.length) (fun ⟨vis, vo⟩ => [(5, vo), (14, .pointer (some ⟨it11, 0, none⟩))]) (fun ⟨vis, vo⟩ w' => (Vis (sf o) vis) ∧ Own nob w w' [itr kInt kInt it11 mm es clock vis, vec EI vo ((vis.filter fun q => decide (0 < q.2)).map (·.1))]) ([], .slice none 0 0) ⟨rfl, rfl, trivial⟩ ⟨.nil, (S9.pick [1, 0] (by decide) rfl)⟩ ?_
  rintro ⟨vis, vo⟩ ρ w1 ⟨hV, S1⟩ IH
  refine r_seq ?_
  refine r_region ?_
  refine l_next S1 0 rfl rfl keyI (fun _ _ h => by cases h; rfl) hM rfl (he_le hm S1.le) (fun hAll => ?_) (fun c a w12 hfc hnew S13 hk14 => ?_)
  · skip
    have hel : ((vis.filter fun q => decide (0 < q.2)).map (·.1)).length ≤ 1000000000 := by
      have hel := vis_len (hR.ok.ids o) hV
      have hfl := List.length_filter_le (fun q : Int × Int => decide (0 < q.2)) vis
      rw [List.length_map]; omega
    refine l_x rfl (x_extract rfl rfl) ?_
    refine l_nil ?_
    refine r_seq ?_
    refine r_false rfl ?_
    refine r_exit rfl ?_
    refine r_seq ?_
    refine r_region ?_
    refine l_x rfl (x_mv rfl) ?_
    refine l_call [] [] [_, _] rfl rfl Tryz.call47 rfl (c_sortedInt _ _ hel _ (vec_rd (S1.at 1 rfl))) ?_
    rintro v2715 w15 ⟨l2715, hp2715, hs2715, hN2715, hl2715⟩
    have S16 := S1.add hl2715 hN2715
    refine l_x rfl (x_as rfl) ?_
    refine l_nil ?_
    refine r_ret (rs := [.tmp 4]) [_] Tryz.func162 rfl ⟨rfl, trivial⟩ ?_
    obtain rfl : l2715 = idsS s o := (asc_of hp2715 hs2715).trans (entered_of (s := s) (o := o) (hR.ok.s o) (hR.ok.ids o) hV hAll)
    exact ⟨S16.new 2 rfl, S16.le⟩
  have hlen := itr_len (S13.at 0 rfl)
  rw [List.length_append, List.length_singleton] at hlen
  have hV2 := hV.step hfc hnew
  have hel := vis_len (hR.ok.ids o) hV
  have hfl := List.length_filter_le (fun q : Int × Int => decide (0 < q.2)) vis
  refine l_x rfl (x_extract rfl rfl) ?_
  refine l_nil ?_
  refine r_seq ?_
  refine r_true rfl ?_
  refine r_skip ?_
  refine r_block ?_
  refine r_seq ?_
  refine r_region ?_
  refine l_x rfl (x_entry (S13.at 0 rfl) hM (he_le hm S13.le) rfl) ?_
  refine l_x rfl (x_extract rfl rfl) ?_
  refine l_x rfl (x_extract rfl rfl) ?_
  refine l_x rfl (x_as rfl) ?_
  refine l_x rfl (x_as rfl) ?_
  refine l_nil ?_
  refine r_seq ?_
  refine r_region ?_
  refine l_x rfl (x_mv rfl) ?_
  refine l_x rfl (x_gtr rfl rfl) ?_
  refine l_nil ?_
  refine r_ifd rfl (fun hc21 => ?_) (fun hc21 => ?_)
  · skip
    refine r_region ?_
    refine l_x rfl (x_mv rfl) ?_
    refine l_x rfl (x_mv rfl) ?_
    refine l_buildSlice EI [c] S13 rfl Tryz.runUnderlying23 Tryz.sizeOf3 Tryz.zeroValue3 rfl ⟨rfl, rfl, trivial⟩ (Nat.le_of_ble_eq_true rfl) ?_
    intro v20 w17 S18 hl19
    refine l_append EI S18 1 rfl rfl rfl rfl (vec_rd (S18.at 2 rfl)) Tryz.underlying23 info3 rfl rfl rfl (by unfold maxLen; rw [List.length_map, List.length_singleton]; omega) (by rw [List.length_map, List.length_singleton]; show _ * 8 ≤ _; omega) ?_
    intro v24 w21 S22 hk23 hv25
    refine l_x rfl (x_as rfl) ?_
    refine l_nil ?_
    refine r_inBlock ?_
    exact IH (vis ++ [(c, a)], v24) _ _ (by dsimp only; rw [List.length_append, List.length_singleton]; omega) ⟨rfl, rfl, trivial⟩ ⟨hV2, (by rw [List.filter_append, List.map_append, List.filter_cons, if_pos (by simpa using hc21)]; exact S22.take 2)⟩
  refine r_skip ?_
  refine r_inBlock ?_
  exact IH (vis ++ [(c, a)], vo) _ _ (by dsimp only; rw [List.length_append, List.length_singleton]; omega) ⟨rfl, rfl, trivial⟩ ⟨hV2, (by rw [List.filter_append, List.map_append, List.filter_cons, if_neg (by simpa using hc21)]; rw [List.filter_nil, List.map_nil, List.append_nil]; exact S13.take 2)⟩

set_option maxHeartbeats 2000000 in
/-- (*couchant/deed.roll).account. -/
theorem c_account (b : Nat) (n : Nm) (s : St) (hs : Int → Option Int) (pf : Int → Option Pl) (sf : Int → Int → Option Int) (o day : Int) (hB : StB s) (w : World) (hR : RollRO TY b n s hs pf sf w) :
    Cl Tryz.prog 56 #[.pointer (some ⟨b, 0, none⟩), .int .i64 o, .int .i64 day] w fun v w' => v = .agg (encAc (acc s o day)).toArray ∧ Le w w' := by
  have hll := hB.ll
  refine fn_of_run (args := [_, _, _]) 57 Tryz.func56 rfl rfl rfl fun cs => ?_
  have S := Own.start (X := nob) w
  refine r_seq ?_
  refine r_region ?_
  refine l_alloc S rfl Tryz.zeroValue62 rfl ?_
  intro b4 w1 S2 hl3
  refine l_nil ?_
  refine r_seq ?_
  refine r_drawE 16 nob Tryz.mixed (by kernel_rfl) ?_
  intro w5 hl6
  have S7 := S2.step hl6
  refine e_exact 0 _ (by kernel_rfl) rfl rfl (by kernel_rfl) rfl (ex_x rfl (fun w1 h1 => x_mv rfl)) ?_
  refine e_exact 1 _ (by kernel_rfl) rfl rfl (by kernel_rfl) rfl (ex_x rfl (fun w1 h1 => x_mv rfl)) ?_
  refine e_exact 2 _ (by kernel_rfl) rfl rfl (by kernel_rfl) rfl (ex_x rfl (fun w1 h1 => x_nilCheck rfl)) ?_
  refine e_exact 3 _ (by kernel_rfl) rfl rfl (by kernel_rfl) rfl (ex_x rfl (fun w1 h1 => x_fieldAddr rfl Tryz.runUnderlying81 rfl Tryz.sizeOf76 (by decide))) ?_
  refine e_exact 4 _ (by kernel_rfl) rfl rfl (by kernel_rfl) rfl (ex_x rfl (fun w1 h1 => x_load rfl (ld_blk (hR.blk.keep (S7.step h1).le id) Tryz.isAgg76 rfl))) ?_
  refine e_exact 5 _ (by kernel_rfl) rfl rfl (by kernel_rfl) rfl (ex_x rfl (fun w1 h1 => x_mv rfl)) ?_
  refine e_exact 6 _ (by kernel_rfl) rfl rfl (by kernel_rfl) rfl (ex_x rfl (fun w1 h1 => x_lookup (hR.le (S7.step h1).le).hm keyI Tryz.runUnderlying76 rfl rfl Tryz.zeroValue3 (map_get0 (hR.ok.h o)))) ?_
  refine e_exact 7 _ (by kernel_rfl) rfl rfl (by kernel_rfl) rfl (ex_x rfl (fun w1 h1 => x_mv rfl)) ?_
  refine e_exact 8 _ (by kernel_rfl) rfl rfl (by kernel_rfl) rfl (ex_x rfl (fun w1 h1 => x_mv rfl)) ?_
  refine e_exact 10 _ (by kernel_rfl) rfl rfl (by kernel_rfl) rfl (ex_x rfl (fun w1 h1 => x_mv rfl)) ?_
  refine e_exact 11 _ (by kernel_rfl) rfl rfl (by kernel_rfl) rfl (ex_x rfl (fun w1 h1 => x_mv rfl)) ?_
  refine e_exact 12 _ (by kernel_rfl) rfl rfl (by kernel_rfl) rfl (ex_x rfl (fun w1 h1 => x_mv rfl)) ?_
  refine e_next [9, 15] (by kernel_rfl) (by kernel_rfl) ⟨⟨_, _, rfl, rfl, ?_⟩, ⟨_, _, rfl, rfl, ?_⟩, trivial⟩
  · skip
    refine s_callf [] [] [_, _] rfl rfl Tryz.call90 rfl ((c_pledged b n s hs pf sf _ hB _ (hR.le S7.le)).mono ?_)
    rintro _ w8 ⟨rfl, hl10⟩
    have S9 := S7.step hl10
    refine ⟨.of_le hl10, ?_⟩
    refine e_next [13, 15] (by kernel_rfl) (by kernel_rfl) ⟨⟨_, _, rfl, rfl, ?_⟩, ⟨_, _, rfl, rfl, ?_⟩, trivial⟩
    · skip
      refine s_callf [] [] [_, _, _] rfl rfl Tryz.call91 rfl ((c_out b n s hs pf sf _ _ hB _ (hR.le S9.le)).mono ?_)
      rintro _ w11 ⟨rfl, hl13⟩
      have S12 := S9.step hl13
      refine ⟨.of_le hl13, ?_⟩
      refine e_exact 14 _ (by kernel_rfl) rfl rfl (by kernel_rfl) rfl (ex_x rfl (fun w1 h1 => x_buildS (out := [_, _, _, _, _]) (ss := [1, 1, 1, 1, 1]) Tryz.zeroValue62 rfl Tryz.runUnderlying62 ⟨Tryz.sizeOf3, Tryz.sizeOf3, Tryz.sizeOf3, Tryz.sizeOf3, Tryz.sizeOf3, trivial⟩ (fill_cons rfl rfl rfl (Nat.le_of_ble_eq_true rfl) (fill_cons rfl rfl rfl (Nat.le_of_ble_eq_true rfl) (fill_cons rfl rfl rfl (Nat.le_of_ble_eq_true rfl) (fill_cons rfl rfl rfl (Nat.le_of_ble_eq_true rfl) fill_nil)))))) ?_
      refine e_next [15] (by kernel_rfl) (by kernel_rfl) ⟨⟨_, _, rfl, rfl, ?_⟩, trivial⟩
      refine s_alloc S12 rfl Tryz.zeroValue62 rfl ?_
      intro b17 w14 S15 hl16
      refine ⟨.of_le hl16, ?_⟩
      refine e_done (by kernel_rfl) ?_
      refine l_stores (vs := [_, _, _, _, _]) S15 1 rfl rfl rfl rfl (ones_cons rfl (ones_cons rfl (ones_cons rfl (ones_cons rfl (ones_cons rfl ones_nil))))) Tryz.sizeOf62 (by first | exact Nat.le_refl _ | simp) (splice_all rfl) ?_
      intro w18 S19 hk20
      refine l_nil ?_
      refine r_seq ?_
      refine r_seq ?_
      refine r_region ?_
      refine l_x rfl (x_mv rfl) ?_
      refine l_x rfl (x_nilCheck rfl) ?_
      refine l_x rfl (x_fieldAddr rfl Tryz.runUnderlying81 rfl Tryz.sizeOf77 (by decide)) ?_
      refine l_x rfl (x_load rfl (ld_blk (hR.blk.keep S19.le id) Tryz.isAgg77 rfl)) ?_
      refine l_x rfl (x_len (hR.le S19.le).lm rfl Tryz.runUnderlying77) ?_
      refine l_x rfl (x_mv rfl) ?_
      refine l_nil ?_
      refine r_block ?_
      refine r_loop (G := Nat) (fun i => s.leases.length - i) (fun i => [(1, .int .i64 o), (2, .int .i64 day), (6, .pointer (some ⟨b4, 0, none⟩)), (7, .pointer (some ⟨b17, 0, none⟩)), (28, n.lv), (29, .int .i64 s.leases.length), (30, .int .i64 i)]) (fun i w' => (i ≤ s.leases.length) ∧ Own nob w w' [blk b4 [i64 0, i64 0, i64 0, i64 0, i64 0] 62, blk b17 [i64 o, i64 (s.holds o), i64 (pledged s o), i64 (outS s o day), i64 (sumF (fun x : Ls => decide (x.to = o ∧ x.day ≤ day ∧ day ≤ x.stop)) (·.parts) (s.leases.take i))] 62]) 0 ⟨rfl, rfl, rfl, rfl, rfl, rfl, rfl, trivial⟩ ⟨Nat.zero_le _, (S19.take 2)⟩ ?_
      rintro i ρ w1 ⟨hi, S1⟩ IH
      have hbd := hB.inn (o := o) (day := day) i
      refine r_seq ?_
      refine r_region ?_
      refine l_x rfl (x_lss rfl rfl) ?_
      refine l_nil ?_
      refine r_seq ?_
      refine r_ifd rfl (fun hc31 => ?_) (fun hc31 => ?_)
      · skip
        obtain ⟨x, hx⟩ : ∃ x, s.leases[i]? = some x := ⟨_, List.getElem?_eq_getElem (by omega)⟩
        have hxb := hB.lp x (List.mem_of_getElem? hx)
        refine r_skip ?_
        refine r_seq ?_
        refine r_block ?_
        refine r_seq ?_
        refine r_region ?_
        refine l_index ELS rfl (hR.le S1.le).lm rfl rfl Tryz.runUnderlying77 Tryz.sizeOf135 (by omega) hx ?_
        intro b21 o22 hat23 row24
        refine l_x rfl (x_load rfl (ld_row Tryz.isAgg135 Tryz.sizeOf135 rfl row24)) ?_
        refine l_alloc S1 rfl Tryz.zeroValue135 rfl ?_
        intro b28 w25 S26 hl27
        refine l_stores (vs := [_, _, _, _, _, _]) S26 2 rfl rfl rfl rfl (ones_cons rfl (ones_cons rfl (ones_cons rfl (ones_cons rfl (ones_cons rfl (ones_cons rfl ones_nil)))))) Tryz.sizeOf135 (by first | exact Nat.le_refl _ | simp) (splice_all rfl) ?_
        intro w29 S30 hk31
        refine l_nil ?_
        refine r_seq ?_
        refine r_region ?_
        refine l_x rfl (x_fieldAddr rfl Tryz.runUnderlying135 rfl Tryz.sizeOf133 (by decide)) ?_
        refine l_x rfl (x_fieldAddr rfl Tryz.runUnderlying133 rfl Tryz.sizeOf3 (by decide)) ?_
        refine l_x rfl (x_load rfl (ld_blk (S30.blk 2 rfl) Tryz.isAgg3 rfl)) ?_
        refine l_x rfl (x_mv rfl) ?_
        refine l_x rfl (x_eql rfl rfl) ?_
        refine l_x rfl (x_mv rfl) ?_
        refine l_splitd (d := 39) rfl (fun hg39 => ?_) (fun hg39 => ?_)
        · skip
          refine l_x rfl (x_mv rfl) ?_
          refine l_x rfl (x_fieldAddr rfl Tryz.runUnderlying135 rfl Tryz.sizeOf3 (by decide)) ?_
          refine l_x rfl (x_load rfl (ld_blk (S30.blk 2 rfl) Tryz.isAgg3 rfl)) ?_
          refine l_x rfl (x_fieldAddr rfl Tryz.runUnderlying135 rfl Tryz.sizeOf133 (by decide)) ?_
          refine l_x rfl (x_fieldAddr rfl Tryz.runUnderlying133 rfl Tryz.sizeOf3 (by decide)) ?_
          refine l_x rfl (x_load rfl (ld_blk (S30.blk 2 rfl) Tryz.isAgg3 rfl)) ?_
          refine l_call [] [] [_, _, _] rfl rfl Tryz.call76 rfl (c_in _ _ _ _) ?_
          rintro _ w32 ⟨rfl, hl34⟩
          have S33 := S30.step hl34
          refine l_x rfl (x_pick_t rfl rfl) ?_
          refine l_nil ?_
          refine r_if rfl (fun hc47 => ?_) (fun hc47 => ?_)
          · skip
            refine r_region ?_
            refine l_x rfl (x_fieldAddr rfl Tryz.runUnderlying62 rfl Tryz.sizeOf3 (by decide)) ?_
            refine l_x rfl (x_load rfl (ld_blk (S33.blk 1 rfl) Tryz.isAgg3 rfl)) ?_
            refine l_x rfl (x_fieldAddr rfl Tryz.runUnderlying135 rfl Tryz.sizeOf133 (by decide)) ?_
            refine l_x rfl (x_fieldAddr rfl Tryz.runUnderlying133 rfl Tryz.sizeOf3 (by decide)) ?_
            refine l_x rfl (x_load rfl (ld_blk (S33.blk 2 rfl) Tryz.isAgg3 rfl)) ?_
            refine l_x rfl (x_add rfl rfl (by omega)) ?_
            refine l_x rfl (x_fieldAddr rfl Tryz.runUnderlying62 rfl Tryz.sizeOf3 (by decide)) ?_
            refine l_storeq (c' := [_, _, _, _, _]) S33 1 rfl rfl rfl rfl rfl Tryz.sizeOf3 (by first | (simp; done) | exact Nat.le_of_ble_eq_true rfl) rfl ?_
            intro w35 S36 hk37
            refine l_nil ?_
            refine r_inBlock ?_
            refine r_region ?_
            refine l_x rfl (x_add rfl rfl (by omega)) ?_
            refine l_x rfl (x_mv rfl) ?_
            refine l_nil ?_
            exact IH (i + 1) _ _ (by omega) ⟨rfl, rfl, rfl, rfl, rfl, rfl, rfl, trivial⟩ ⟨by omega, (by rw [sumF_take hx, if_pos (by simp only [decide_eq_true_eq]; first | omega | (simp [rng] at hc47; omega))]; exact S36.take 2)⟩
          refine r_skip ?_
          refine r_inBlock ?_
          refine r_region ?_
          refine l_x rfl (x_add rfl rfl (by omega)) ?_
          refine l_x rfl (x_mv rfl) ?_
          refine l_nil ?_
          exact IH (i + 1) _ _ (by omega) ⟨rfl, rfl, rfl, rfl, rfl, rfl, rfl, trivial⟩ ⟨by omega, (by rw [sumF_take hx, if_neg (by simp only [decide_eq_true_eq]; first | omega | (simp [rng] at hc47; omega))]; rw [Int.add_zero]; exact S33.take 2)⟩
        refine l_pass rfl ?_
        refine l_pass rfl ?_
        refine l_pass rfl ?_
        refine l_pass rfl ?_
        refine l_pass rfl ?_
        refine l_pass rfl ?_
        refine l_pass rfl ?_
        refine l_x rfl (x_pick_f rfl rfl) ?_
        refine l_nil ?_
        refine r_false rfl ?_
        refine r_skip ?_
        refine r_inBlock ?_
        refine r_region ?_
        refine l_x rfl (x_add rfl rfl (by omega)) ?_
        refine l_x rfl (x_mv rfl) ?_
        refine l_nil ?_
        exact IH (i + 1) _ _ (by omega) ⟨rfl, rfl, rfl, rfl, rfl, rfl, rfl, trivial⟩ ⟨by omega, (by rw [sumF_take hx, if_neg (by simp only [decide_eq_true_eq]; first | omega | (simp [rng] at hc47; omega))]; rw [Int.add_zero]; exact S30.take 2)⟩
      obtain rfl : i = s.leases.length := by omega
      rw [List.take_length] at S1
      refine r_exit rfl ?_
      refine r_seq ?_
      refine r_region ?_
      refine l_x rfl (x_load rfl (ld_blks (S1.blk 1 rfl) Tryz.isAgg62 Tryz.sizeOf62 rfl rfl)) ?_
      refine l_stores (vs := [_, _, _, _, _]) S1 0 rfl rfl rfl rfl (ones_cons rfl (ones_cons rfl (ones_cons rfl (ones_cons rfl (ones_cons rfl ones_nil))))) Tryz.sizeOf62 (by first | exact Nat.le_refl _ | simp) (splice_all rfl) ?_
      intro w38 S39 hk40
      refine l_nil ?_
      refine r_ret (rs := [.cell 6 62]) [_] Tryz.func56 rfl ⟨⟨_, rfl, (ld_blks (S39.blk 0 rfl) Tryz.isAgg62 Tryz.sizeOf62 rfl rfl)⟩, trivial⟩ ?_
      exact ⟨rfl, S39.le⟩
    refine s_alloc S9 rfl Tryz.zeroValue62 rfl ?_
    intro b44 w41 S42 hl43
    refine ⟨.of_le hl43, ?_⟩
    refine e_next [13] (by kernel_rfl) (by kernel_rfl) ⟨⟨_, _, rfl, rfl, ?_⟩, trivial⟩
    refine s_callf [] [] [_, _, _] rfl rfl Tryz.call91 rfl ((c_out b n s hs pf sf _ _ hB _ (hR.le S42.le)).mono ?_)
    rintro _ w45 ⟨rfl, hl47⟩
    have S46 := S42.step hl47
    refine ⟨.of_le hl47, ?_⟩
    refine e_exact 14 _ (by kernel_rfl) rfl rfl (by kernel_rfl) rfl (ex_x rfl (fun w1 h1 => x_buildS (out := [_, _, _, _, _]) (ss := [1, 1, 1, 1, 1]) Tryz.zeroValue62 rfl Tryz.runUnderlying62 ⟨Tryz.sizeOf3, Tryz.sizeOf3, Tryz.sizeOf3, Tryz.sizeOf3, Tryz.sizeOf3, trivial⟩ (fill_cons rfl rfl rfl (Nat.le_of_ble_eq_true rfl) (fill_cons rfl rfl rfl (Nat.le_of_ble_eq_true rfl) (fill_cons rfl rfl rfl (Nat.le_of_ble_eq_true rfl) (fill_cons rfl rfl rfl (Nat.le_of_ble_eq_true rfl) fill_nil)))))) ?_
    refine e_done (by kernel_rfl) ?_
    refine l_stores (vs := [_, _, _, _, _]) S46 1 rfl rfl rfl rfl (ones_cons rfl (ones_cons rfl (ones_cons rfl (ones_cons rfl (ones_cons rfl ones_nil))))) Tryz.sizeOf62 (by first | exact Nat.le_refl _ | simp) (splice_all rfl) ?_
    intro w48 S49 hk50
    refine l_nil ?_
    refine r_seq ?_
    refine r_seq ?_
    refine r_region ?_
    refine l_x rfl (x_mv rfl) ?_
    refine l_x rfl (x_nilCheck rfl) ?_
    refine l_x rfl (x_fieldAddr rfl Tryz.runUnderlying81 rfl Tryz.sizeOf77 (by decide)) ?_
    refine l_x rfl (x_load rfl (ld_blk (hR.blk.keep S49.le id) Tryz.isAgg77 rfl)) ?_
    refine l_x rfl (x_len (hR.le S49.le).lm rfl Tryz.runUnderlying77) ?_
    refine l_x rfl (x_mv rfl) ?_
    refine l_nil ?_
    refine r_block ?_
    refine r_loop (G := Nat) (fun i => s.leases.length - i) (fun i => [(1, .int .i64 o), (2, .int .i64 day), (6, .pointer (some ⟨b4, 0, none⟩)), (7, .pointer (some ⟨b44, 0, none⟩)), (28, n.lv), (29, .int .i64 s.leases.length), (30, .int .i64 i)]) (fun i w' => (i ≤ s.leases.length) ∧ Own nob w w' [blk b4 [i64 0, i64 0, i64 0, i64 0, i64 0] 62, blk b44 [i64 o, i64 (s.holds o), i64 (pledged s o), i64 (outS s o day), i64 (sumF (fun x : Ls => decide (x.to = o ∧ x.day ≤ day ∧ day ≤ x.stop)) (·.parts) (s.leases.take i))] 62]) 0 ⟨rfl, rfl, rfl, rfl, rfl, rfl, rfl, trivial⟩ ⟨Nat.zero_le _, (S49.take 2)⟩ ?_
    rintro i ρ w1 ⟨hi, S1⟩ IH
    have hbd := hB.inn (o := o) (day := day) i
    refine r_seq ?_
    refine r_region ?_
    refine l_x rfl (x_lss rfl rfl) ?_
    refine l_nil ?_
    refine r_seq ?_
    refine r_ifd rfl (fun hc31 => ?_) (fun hc31 => ?_)
    · skip
      obtain ⟨x, hx⟩ : ∃ x, s.leases[i]? = some x := ⟨_, List.getElem?_eq_getElem (by omega)⟩
      have hxb := hB.lp x (List.mem_of_getElem? hx)
      refine r_skip ?_
      refine r_seq ?_
      refine r_block ?_
      refine r_seq ?_
      refine r_region ?_
      refine l_index ELS rfl (hR.le S1.le).lm rfl rfl Tryz.runUnderlying77 Tryz.sizeOf135 (by omega) hx ?_
      intro b51 o52 hat53 row54
      refine l_x rfl (x_load rfl (ld_row Tryz.isAgg135 Tryz.sizeOf135 rfl row54)) ?_
      refine l_alloc S1 rfl Tryz.zeroValue135 rfl ?_
      intro b58 w55 S56 hl57
      refine l_stores (vs := [_, _, _, _, _, _]) S56 2 rfl rfl rfl rfl (ones_cons rfl (ones_cons rfl (ones_cons rfl (ones_cons rfl (ones_cons rfl (ones_cons rfl ones_nil)))))) Tryz.sizeOf135 (by first | exact Nat.le_refl _ | simp) (splice_all rfl) ?_
      intro w59 S60 hk61
      refine l_nil ?_
      refine r_seq ?_
      refine r_region ?_
      refine l_x rfl (x_fieldAddr rfl Tryz.runUnderlying135 rfl Tryz.sizeOf133 (by decide)) ?_
      refine l_x rfl (x_fieldAddr rfl Tryz.runUnderlying133 rfl Tryz.sizeOf3 (by decide)) ?_
      refine l_x rfl (x_load rfl (ld_blk (S60.blk 2 rfl) Tryz.isAgg3 rfl)) ?_
      refine l_x rfl (x_mv rfl) ?_
      refine l_x rfl (x_eql rfl rfl) ?_
      refine l_x rfl (x_mv rfl) ?_
      refine l_splitd (d := 39) rfl (fun hg39 => ?_) (fun hg39 => ?_)
      · skip
        refine l_x rfl (x_mv rfl) ?_
        refine l_x rfl (x_fieldAddr rfl Tryz.runUnderlying135 rfl Tryz.sizeOf3 (by decide)) ?_
        refine l_x rfl (x_load rfl (ld_blk (S60.blk 2 rfl) Tryz.isAgg3 rfl)) ?_
        refine l_x rfl (x_fieldAddr rfl Tryz.runUnderlying135 rfl Tryz.sizeOf133 (by decide)) ?_
        refine l_x rfl (x_fieldAddr rfl Tryz.runUnderlying133 rfl Tryz.sizeOf3 (by decide)) ?_
        refine l_x rfl (x_load rfl (ld_blk (S60.blk 2 rfl) Tryz.isAgg3 rfl)) ?_
        refine l_call [] [] [_, _, _] rfl rfl Tryz.call76 rfl (c_in _ _ _ _) ?_
        rintro _ w62 ⟨rfl, hl64⟩
        have S63 := S60.step hl64
        refine l_x rfl (x_pick_t rfl rfl) ?_
        refine l_nil ?_
        refine r_if rfl (fun hc47 => ?_) (fun hc47 => ?_)
        · skip
          refine r_region ?_
          refine l_x rfl (x_fieldAddr rfl Tryz.runUnderlying62 rfl Tryz.sizeOf3 (by decide)) ?_
          refine l_x rfl (x_load rfl (ld_blk (S63.blk 1 rfl) Tryz.isAgg3 rfl)) ?_
          refine l_x rfl (x_fieldAddr rfl Tryz.runUnderlying135 rfl Tryz.sizeOf133 (by decide)) ?_
          refine l_x rfl (x_fieldAddr rfl Tryz.runUnderlying133 rfl Tryz.sizeOf3 (by decide)) ?_
          refine l_x rfl (x_load rfl (ld_blk (S63.blk 2 rfl) Tryz.isAgg3 rfl)) ?_
          refine l_x rfl (x_add rfl rfl (by omega)) ?_
          refine l_x rfl (x_fieldAddr rfl Tryz.runUnderlying62 rfl Tryz.sizeOf3 (by decide)) ?_
          refine l_storeq (c' := [_, _, _, _, _]) S63 1 rfl rfl rfl rfl rfl Tryz.sizeOf3 (by first | (simp; done) | exact Nat.le_of_ble_eq_true rfl) rfl ?_
          intro w65 S66 hk67
          refine l_nil ?_
          refine r_inBlock ?_
          refine r_region ?_
          refine l_x rfl (x_add rfl rfl (by omega)) ?_
          refine l_x rfl (x_mv rfl) ?_
          refine l_nil ?_
          exact IH (i + 1) _ _ (by omega) ⟨rfl, rfl, rfl, rfl, rfl, rfl, rfl, trivial⟩ ⟨by omega, (by rw [sumF_take hx, if_pos (by simp only [decide_eq_true_eq]; first | omega | (simp [rng] at hc47; omega))]; exact S66.take 2)⟩
        refine r_skip ?_
        refine r_inBlock ?_
        refine r_region ?_
        refine l_x rfl (x_add rfl rfl (by omega)) ?_
        refine l_x rfl (x_mv rfl) ?_
        refine l_nil ?_
        exact IH (i + 1) _ _ (by omega) ⟨rfl, rfl, rfl, rfl, rfl, rfl, rfl, trivial⟩ ⟨by omega, (by rw [sumF_take hx, if_neg (by simp only [decide_eq_true_eq]; first | omega | (simp [rng] at hc47; omega))]; rw [Int.add_zero]; exact S63.take 2)⟩
      refine l_pass rfl ?_
      refine l_pass rfl ?_
      refine l_pass rfl ?_
      refine l_pass rfl ?_
      refine l_pass rfl ?_
      refine l_pass rfl ?_
      refine l_pass rfl ?_
      refine l_x rfl (x_pick_f rfl rfl) ?_
      refine l_nil ?_
      refine r_false rfl ?_
      refine r_skip ?_
      refine r_inBlock ?_
      refine r_region ?_
      refine l_x rfl (x_add rfl rfl (by omega)) ?_
      refine l_x rfl (x_mv rfl) ?_
      refine l_nil ?_
      exact IH (i + 1) _ _ (by omega) ⟨rfl, rfl, rfl, rfl, rfl, rfl, rfl, trivial⟩ ⟨by omega, (by rw [sumF_take hx, if_neg (by simp only [decide_eq_true_eq]; first | omega | (simp [rng] at hc47; omega))]; rw [Int.add_zero]; exact S60.take 2)⟩
    obtain rfl : i = s.leases.length := by omega
    rw [List.take_length] at S1
    refine r_exit rfl ?_
    refine r_seq ?_
    refine r_region ?_
    refine l_x rfl (x_load rfl (ld_blks (S1.blk 1 rfl) Tryz.isAgg62 Tryz.sizeOf62 rfl rfl)) ?_
    refine l_stores (vs := [_, _, _, _, _]) S1 0 rfl rfl rfl rfl (ones_cons rfl (ones_cons rfl (ones_cons rfl (ones_cons rfl (ones_cons rfl ones_nil))))) Tryz.sizeOf62 (by first | exact Nat.le_refl _ | simp) (splice_all rfl) ?_
    intro w68 S69 hk70
    refine l_nil ?_
    refine r_ret (rs := [.cell 6 62]) [_] Tryz.func56 rfl ⟨⟨_, rfl, (ld_blks (S69.blk 0 rfl) Tryz.isAgg62 Tryz.sizeOf62 rfl rfl)⟩, trivial⟩ ?_
    exact ⟨rfl, S69.le⟩
  refine s_alloc S7 rfl Tryz.zeroValue62 rfl ?_
  intro b74 w71 S72 hl73
  refine ⟨.of_le hl73, ?_⟩
  refine e_next [9] (by kernel_rfl) (by kernel_rfl) ⟨⟨_, _, rfl, rfl, ?_⟩, trivial⟩
  refine s_callf [] [] [_, _] rfl rfl Tryz.call90 rfl ((c_pledged b n s hs pf sf _ hB _ (hR.le S72.le)).mono ?_)
  rintro _ w75 ⟨rfl, hl77⟩
  have S76 := S72.step hl77
  refine ⟨.of_le hl77, ?_⟩
  refine e_next [13] (by kernel_rfl) (by kernel_rfl) ⟨⟨_, _, rfl, rfl, ?_⟩, trivial⟩
  refine s_callf [] [] [_, _, _] rfl rfl Tryz.call91 rfl ((c_out b n s hs pf sf _ _ hB _ (hR.le S76.le)).mono ?_)
  rintro _ w78 ⟨rfl, hl80⟩
  have S79 := S76.step hl80
  refine ⟨.of_le hl80, ?_⟩
  refine e_exact 14 _ (by kernel_rfl) rfl rfl (by kernel_rfl) rfl (ex_x rfl (fun w1 h1 => x_buildS (out := [_, _, _, _, _]) (ss := [1, 1, 1, 1, 1]) Tryz.zeroValue62 rfl Tryz.runUnderlying62 ⟨Tryz.sizeOf3, Tryz.sizeOf3, Tryz.sizeOf3, Tryz.sizeOf3, Tryz.sizeOf3, trivial⟩ (fill_cons rfl rfl rfl (Nat.le_of_ble_eq_true rfl) (fill_cons rfl rfl rfl (Nat.le_of_ble_eq_true rfl) (fill_cons rfl rfl rfl (Nat.le_of_ble_eq_true rfl) (fill_cons rfl rfl rfl (Nat.le_of_ble_eq_true rfl) fill_nil)))))) ?_
  refine e_done (by kernel_rfl) ?_
  refine l_stores (vs := [_, _, _, _, _]) S79 1 rfl rfl rfl rfl (ones_cons rfl (ones_cons rfl (ones_cons rfl (ones_cons rfl (ones_cons rfl ones_nil))))) Tryz.sizeOf62 (by first | exact Nat.le_refl _ | simp) (splice_all rfl) ?_
  intro w81 S82 hk83
  refine l_nil ?_
  refine r_seq ?_
  refine r_seq ?_
  refine r_region ?_
  refine l_x rfl (x_mv rfl) ?_
  refine l_x rfl (x_nilCheck rfl) ?_
  refine l_x rfl (x_fieldAddr rfl Tryz.runUnderlying81 rfl Tryz.sizeOf77 (by decide)) ?_
  refine l_x rfl (x_load rfl (ld_blk (hR.blk.keep S82.le id) Tryz.isAgg77 rfl)) ?_
  refine l_x rfl (x_len (hR.le S82.le).lm rfl Tryz.runUnderlying77) ?_
  refine l_x rfl (x_mv rfl) ?_
  refine l_nil ?_
  refine r_block ?_
  refine r_loop (G := Nat) (fun i => s.leases.length - i) (fun i => [(1, .int .i64 o), (2, .int .i64 day), (6, .pointer (some ⟨b4, 0, none⟩)), (7, .pointer (some ⟨b74, 0, none⟩)), (28, n.lv), (29, .int .i64 s.leases.length), (30, .int .i64 i)]) (fun i w' => (i ≤ s.leases.length) ∧ Own nob w w' [blk b4 [i64 0, i64 0, i64 0, i64 0, i64 0] 62, blk b74 [i64 o, i64 (s.holds o), i64 (pledged s o), i64 (outS s o day), i64 (sumF (fun x : Ls => decide (x.to = o ∧ x.day ≤ day ∧ day ≤ x.stop)) (·.parts) (s.leases.take i))] 62]) 0 ⟨rfl, rfl, rfl, rfl, rfl, rfl, rfl, trivial⟩ ⟨Nat.zero_le _, (S82.take 2)⟩ ?_
  rintro i ρ w1 ⟨hi, S1⟩ IH
  have hbd := hB.inn (o := o) (day := day) i
  refine r_seq ?_
  refine r_region ?_
  refine l_x rfl (x_lss rfl rfl) ?_
  refine l_nil ?_
  refine r_seq ?_
  refine r_ifd rfl (fun hc31 => ?_) (fun hc31 => ?_)
  · skip
    obtain ⟨x, hx⟩ : ∃ x, s.leases[i]? = some x := ⟨_, List.getElem?_eq_getElem (by omega)⟩
    have hxb := hB.lp x (List.mem_of_getElem? hx)
    refine r_skip ?_
    refine r_seq ?_
    refine r_block ?_
    refine r_seq ?_
    refine r_region ?_
    refine l_index ELS rfl (hR.le S1.le).lm rfl rfl Tryz.runUnderlying77 Tryz.sizeOf135 (by omega) hx ?_
    intro b84 o85 hat86 row87
    refine l_x rfl (x_load rfl (ld_row Tryz.isAgg135 Tryz.sizeOf135 rfl row87)) ?_
    refine l_alloc S1 rfl Tryz.zeroValue135 rfl ?_
    intro b91 w88 S89 hl90
    refine l_stores (vs := [_, _, _, _, _, _]) S89 2 rfl rfl rfl rfl (ones_cons rfl (ones_cons rfl (ones_cons rfl (ones_cons rfl (ones_cons rfl (ones_cons rfl ones_nil)))))) Tryz.sizeOf135 (by first | exact Nat.le_refl _ | simp) (splice_all rfl) ?_
    intro w92 S93 hk94
    refine l_nil ?_
    refine r_seq ?_
    refine r_region ?_
    refine l_x rfl (x_fieldAddr rfl Tryz.runUnderlying135 rfl Tryz.sizeOf133 (by decide)) ?_
    refine l_x rfl (x_fieldAddr rfl Tryz.runUnderlying133 rfl Tryz.sizeOf3 (by decide)) ?_
    refine l_x rfl (x_load rfl (ld_blk (S93.blk 2 rfl) Tryz.isAgg3 rfl)) ?_
    refine l_x rfl (x_mv rfl) ?_
    refine l_x rfl (x_eql rfl rfl) ?_
    refine l_x rfl (x_mv rfl) ?_
    refine l_splitd (d := 39) rfl (fun hg39 => ?_) (fun hg39 => ?_)
    · skip
      refine l_x rfl (x_mv rfl) ?_
      refine l_x rfl (x_fieldAddr rfl Tryz.runUnderlying135 rfl Tryz.sizeOf3 (by decide)) ?_
      refine l_x rfl (x_load rfl (ld_blk (S93.blk 2 rfl) Tryz.isAgg3 rfl)) ?_
      refine l_x rfl (x_fieldAddr rfl Tryz.runUnderlying135 rfl Tryz.sizeOf133 (by decide)) ?_
      refine l_x rfl (x_fieldAddr rfl Tryz.runUnderlying133 rfl Tryz.sizeOf3 (by decide)) ?_
      refine l_x rfl (x_load rfl (ld_blk (S93.blk 2 rfl) Tryz.isAgg3 rfl)) ?_
      refine l_call [] [] [_, _, _] rfl rfl Tryz.call76 rfl (c_in _ _ _ _) ?_
      rintro _ w95 ⟨rfl, hl97⟩
      have S96 := S93.step hl97
      refine l_x rfl (x_pick_t rfl rfl) ?_
      refine l_nil ?_
      refine r_if rfl (fun hc47 => ?_) (fun hc47 => ?_)
      · skip
        refine r_region ?_
        refine l_x rfl (x_fieldAddr rfl Tryz.runUnderlying62 rfl Tryz.sizeOf3 (by decide)) ?_
        refine l_x rfl (x_load rfl (ld_blk (S96.blk 1 rfl) Tryz.isAgg3 rfl)) ?_
        refine l_x rfl (x_fieldAddr rfl Tryz.runUnderlying135 rfl Tryz.sizeOf133 (by decide)) ?_
        refine l_x rfl (x_fieldAddr rfl Tryz.runUnderlying133 rfl Tryz.sizeOf3 (by decide)) ?_
        refine l_x rfl (x_load rfl (ld_blk (S96.blk 2 rfl) Tryz.isAgg3 rfl)) ?_
        refine l_x rfl (x_add rfl rfl (by omega)) ?_
        refine l_x rfl (x_fieldAddr rfl Tryz.runUnderlying62 rfl Tryz.sizeOf3 (by decide)) ?_
        refine l_storeq (c' := [_, _, _, _, _]) S96 1 rfl rfl rfl rfl rfl Tryz.sizeOf3 (by first | (simp; done) | exact Nat.le_of_ble_eq_true rfl) rfl ?_
        intro w98 S99 hk100
        refine l_nil ?_
        refine r_inBlock ?_
        refine r_region ?_
        refine l_x rfl (x_add rfl rfl (by omega)) ?_
        refine l_x rfl (x_mv rfl) ?_
        refine l_nil ?_
        exact IH (i + 1) _ _ (by omega) ⟨rfl, rfl, rfl, rfl, rfl, rfl, rfl, trivial⟩ ⟨by omega, (by rw [sumF_take hx, if_pos (by simp only [decide_eq_true_eq]; first | omega | (simp [rng] at hc47; omega))]; exact S99.take 2)⟩
      refine r_skip ?_
      refine r_inBlock ?_
      refine r_region ?_
      refine l_x rfl (x_add rfl rfl (by omega)) ?_
      refine l_x rfl (x_mv rfl) ?_
      refine l_nil ?_
      exact IH (i + 1) _ _ (by omega) ⟨rfl, rfl, rfl, rfl, rfl, rfl, rfl, trivial⟩ ⟨by omega, (by rw [sumF_take hx, if_neg (by simp only [decide_eq_true_eq]; first | omega | (simp [rng] at hc47; omega))]; rw [Int.add_zero]; exact S96.take 2)⟩
    refine l_pass rfl ?_
    refine l_pass rfl ?_
    refine l_pass rfl ?_
    refine l_pass rfl ?_
    refine l_pass rfl ?_
    refine l_pass rfl ?_
    refine l_pass rfl ?_
    refine l_x rfl (x_pick_f rfl rfl) ?_
    refine l_nil ?_
    refine r_false rfl ?_
    refine r_skip ?_
    refine r_inBlock ?_
    refine r_region ?_
    refine l_x rfl (x_add rfl rfl (by omega)) ?_
    refine l_x rfl (x_mv rfl) ?_
    refine l_nil ?_
    exact IH (i + 1) _ _ (by omega) ⟨rfl, rfl, rfl, rfl, rfl, rfl, rfl, trivial⟩ ⟨by omega, (by rw [sumF_take hx, if_neg (by simp only [decide_eq_true_eq]; first | omega | (simp [rng] at hc47; omega))]; rw [Int.add_zero]; exact S93.take 2)⟩
  obtain rfl : i = s.leases.length := by omega
  rw [List.take_length] at S1
  refine r_exit rfl ?_
  refine r_seq ?_
  refine r_region ?_
  refine l_x rfl (x_load rfl (ld_blks (S1.blk 1 rfl) Tryz.isAgg62 Tryz.sizeOf62 rfl rfl)) ?_
  refine l_stores (vs := [_, _, _, _, _]) S1 0 rfl rfl rfl rfl (ones_cons rfl (ones_cons rfl (ones_cons rfl (ones_cons rfl (ones_cons rfl ones_nil))))) Tryz.sizeOf62 (by first | exact Nat.le_refl _ | simp) (splice_all rfl) ?_
  intro w101 S102 hk103
  refine l_nil ?_
  refine r_ret (rs := [.cell 6 62]) [_] Tryz.func56 rfl ⟨⟨_, rfl, (ld_blks (S102.blk 0 rfl) Tryz.isAgg62 Tryz.sizeOf62 rfl rfl)⟩, trivial⟩ ?_
  exact ⟨rfl, S102.le⟩


end Go.Proofs

/-
  Contracts of functions of the program: each by symbolic execution of its text.
-/
namespace Go.Proofs
open Go Go.Vk Go.Vk.Flow

open Go.Vk.Deed

/-- couchant/deed.need. -/
theorem c_need (ok : Bool) (w : World) :
    Cp Tryz.prog 155 #[.bool ok] w (fun _ w' => ok = true ∧ Le w w') (fun v w' => ok = false ∧ v = .iface 156 (.agg #[]) ∧ Le w w') := by
  refine fn_of_runP (args := [_]) 6 Tryz.func155 rfl rfl rfl fun cs => ?_
  have S := Own.start (X := nob) w
  refine r_seq ?_
  refine r_region ?_
  refine l_x rfl (x_mv rfl) ?_
  refine l_x rfl (x_not rfl) ?_
  refine l_nil ?_
  refine r_if rfl (fun hc3 => ?_) (fun hc3 => ?_)
  · skip
    refine r_region ?_
    refine l_x rfl (x_buildS (out := []) (ss := []) Tryz.zeroValue156 rfl Tryz.runUnderlying156 trivial fill_nil) ?_
    refine l_x rfl (x_mkiface rfl Tryz.runUnderlying156 rfl) ?_
    refine l_panic rfl rfl (fun k => ?_)
    exact leaveU_panic Tryz.func155 ⟨by simpa using hc3, rfl, S.le⟩
  refine r_skip ?_
  refine p_end (rs := []) [] Tryz.func155 rfl trivial ?_
  exact ⟨by simpa using hc3, S.le⟩

set_option maxHeartbeats 2000000 in
/-- (*couchant/deed.roll).add. -/
theorem c_add (b : Nat) (n : Nm) (s : St) (o id x : Int) (ho : 1 ≤ o ∧ o ≤ 40) (hi : 1 ≤ id ∧ id ≤ 400) (h1 : -1000000000000 ≤ s.src o id ∧ s.src o id ≤ 1000000000000) (h2 : -1000000000000 ≤ s.holds o ∧ s.holds o ≤ 1000000000000) (h3 : -1000000000000 ≤ x ∧ x ≤ 1000000000000) (w : World) (S0 : Own (rollS TY b n s).fp w w [rollS TY b n s]) :
    Cl Tryz.prog 154 #[.pointer (some ⟨b, 0, none⟩), .int .i64 o, .int .i64 id, .int .i64 x] w fun _ w' => ∃ n', Own (rollS TY b n s).fp w w' [rollS TY b n' (addS s o id x)] := by
  refine fn_of_run (args := [_, _, _, _]) 39 Tryz.func154 rfl rfl rfl fun cs => ?_
  obtain ⟨hs, pf, sf, hok, S⟩ := Own.rollOpen (A := []) S0
  refine r_seq ?_
  refine r_seq ?_
  rcases hin : n.inn o with _ | mm
  · skip
    refine r_region ?_
    refine l_x rfl (x_mv rfl) ?_
    refine l_x rfl (x_nilCheck rfl) ?_
    refine l_x rfl (x_fieldAddr rfl Tryz.runUnderlying81 rfl Tryz.sizeOf79 (by decide)) ?_
    refine l_x rfl (x_load rfl (ld_blk (S.blk 0 rfl) Tryz.isAgg79 rfl)) ?_
    refine l_x rfl (x_mv rfl) ?_
    refine l_x rfl (x_lookup (S.at 5 rfl) keyI Tryz.runUnderlying79 rfl rfl Tryz.zeroValue76 (by rw [hin] <;> rfl)) ?_
    refine l_x rfl (x_nilmap Tryz.runUnderlying76 rfl rfl rfl) ?_
    refine l_nil ?_
    refine r_true rfl ?_
    refine r_region ?_
    refine l_x rfl (x_mv rfl) ?_
    refine l_x rfl (x_nilCheck rfl) ?_
    refine l_x rfl (x_fieldAddr rfl Tryz.runUnderlying81 rfl Tryz.sizeOf79 (by decide)) ?_
    refine l_x rfl (x_load rfl (ld_blk (S.blk 0 rfl) Tryz.isAgg79 rfl)) ?_
    refine l_x rfl (x_mv rfl) ?_
    refine l_makeMap kInt kInt S rfl ?_
    intro m4 w1 S2 hl3
    refine l_mapUpdate S2 5 rfl rfl keyI Tryz.runUnderlying79 rfl rfl rfl ?_
    intro w5 S6 hk7
    refine l_nil ?_
    refine r_seq ?_
    have hok2 := hok.more (m := m4) hin
    have hin2 : (n.more o m4).inn o = some m4 := by rw [more_inn hin]; simp [mset]
    have Sn := S6.rollNew hok hin
    refine r_region ?_
    refine l_x rfl (x_mv rfl) ?_
    refine l_x rfl (x_nilCheck rfl) ?_
    refine l_x rfl (x_fieldAddr rfl Tryz.runUnderlying81 rfl Tryz.sizeOf79 (by decide)) ?_
    refine l_x rfl (x_load rfl (ld_blk (Sn.blk 0 rfl) Tryz.isAgg79 rfl)) ?_
    refine l_x rfl (x_mv rfl) ?_
    refine l_x rfl (x_lookup (Sn.at 5 rfl) keyI Tryz.runUnderlying79 rfl rfl Tryz.zeroValue76 (show (_ : Value) = .map (some m4) from by rw [hin2] <;> rfl)) ?_
    refine l_x rfl (x_mv rfl) ?_
    refine l_x rfl (x_lookup (inn_ok (Sn.at 6 rfl) hin2) keyI Tryz.runUnderlying76 rfl rfl Tryz.zeroValue3 (map_get0 (hok2.s o id))) ?_
    refine l_x rfl (x_mv rfl) ?_
    refine l_x rfl (x_add rfl rfl (by omega)) ?_
    refine l_innUpd Sn 6 rfl hin2 hok2.nd rfl keyI Tryz.runUnderlying76 rfl rfl rfl ?_
    intro w8 S9
    refine l_nil ?_
    refine r_region ?_
    refine l_x rfl (x_mv rfl) ?_
    refine l_x rfl (x_nilCheck rfl) ?_
    refine l_x rfl (x_fieldAddr rfl Tryz.runUnderlying81 rfl Tryz.sizeOf76 (by decide)) ?_
    refine l_x rfl (x_load rfl (ld_blk (S9.blk 0 rfl) Tryz.isAgg76 rfl)) ?_
    refine l_x rfl (x_mv rfl) ?_
    refine l_x rfl (x_lookup (S9.at 1 rfl) keyI Tryz.runUnderlying76 rfl rfl Tryz.zeroValue3 (map_get0 (hok.h o))) ?_
    refine l_x rfl (x_mv rfl) ?_
    refine l_x rfl (x_add rfl rfl (by omega)) ?_
    refine l_mapUpdate S9 1 rfl rfl keyI Tryz.runUnderlying76 rfl rfl rfl ?_
    intro w10 S11 hk12
    refine l_nil ?_
    refine r_end (rs := []) [] Tryz.func154 rfl trivial ?_
    exact ⟨n.more o m4, Own.rollShut (A := []) (s := addS s o id x) S11 (hok2.add ho hi hin2)⟩
  refine r_region ?_
  refine l_x rfl (x_mv rfl) ?_
  refine l_x rfl (x_nilCheck rfl) ?_
  refine l_x rfl (x_fieldAddr rfl Tryz.runUnderlying81 rfl Tryz.sizeOf79 (by decide)) ?_
  refine l_x rfl (x_load rfl (ld_blk (S.blk 0 rfl) Tryz.isAgg79 rfl)) ?_
  refine l_x rfl (x_mv rfl) ?_
  refine l_x rfl (x_lookup (S.at 5 rfl) keyI Tryz.runUnderlying79 rfl rfl Tryz.zeroValue76 (by rw [hin] <;> rfl)) ?_
  refine l_x rfl (x_nilmap Tryz.runUnderlying76 rfl rfl rfl) ?_
  refine l_nil ?_
  refine r_false rfl ?_
  refine r_skip ?_
  refine r_seq ?_
  refine r_region ?_
  refine l_x rfl (x_mv rfl) ?_
  refine l_x rfl (x_nilCheck rfl) ?_
  refine l_x rfl (x_fieldAddr rfl Tryz.runUnderlying81 rfl Tryz.sizeOf79 (by decide)) ?_
  refine l_x rfl (x_load rfl (ld_blk (S.blk 0 rfl) Tryz.isAgg79 rfl)) ?_
  refine l_x rfl (x_mv rfl) ?_
  refine l_x rfl (x_lookup (S.at 5 rfl) keyI Tryz.runUnderlying79 rfl rfl Tryz.zeroValue76 (show (_ : Value) = .map (some mm) from by rw [hin] <;> rfl)) ?_
  refine l_x rfl (x_mv rfl) ?_
  refine l_x rfl (x_lookup (inn_ok (S.at 6 rfl) hin) keyI Tryz.runUnderlying76 rfl rfl Tryz.zeroValue3 (map_get0 (hok.s o id))) ?_
  refine l_x rfl (x_mv rfl) ?_
  refine l_x rfl (x_add rfl rfl (by omega)) ?_
  refine l_innUpd S 6 rfl hin hok.nd rfl keyI Tryz.runUnderlying76 rfl rfl rfl ?_
  intro w13 S14
  refine l_nil ?_
  refine r_region ?_
  refine l_x rfl (x_mv rfl) ?_
  refine l_x rfl (x_nilCheck rfl) ?_
  refine l_x rfl (x_fieldAddr rfl Tryz.runUnderlying81 rfl Tryz.sizeOf76 (by decide)) ?_
  refine l_x rfl (x_load rfl (ld_blk (S14.blk 0 rfl) Tryz.isAgg76 rfl)) ?_
  refine l_x rfl (x_mv rfl) ?_
  refine l_x rfl (x_lookup (S14.at 1 rfl) keyI Tryz.runUnderlying76 rfl rfl Tryz.zeroValue3 (map_get0 (hok.h o))) ?_
  refine l_x rfl (x_mv rfl) ?_
  refine l_x rfl (x_add rfl rfl (by omega)) ?_
  refine l_mapUpdate S14 1 rfl rfl keyI Tryz.runUnderlying76 rfl rfl rfl ?_
  intro w15 S16 hk17
  refine l_nil ?_
  refine r_end (rs := []) [] Tryz.func154 rfl trivial ?_
  exact ⟨n, Own.rollShut (A := []) (s := addS s o id x) S16 (hok.add ho hi hin)⟩

theorem drop_get {α : Type} {l : List α} {i : Nat} {a : α} (h : l[i]? = some a) : l.drop i = a :: l.drop (i + 1) := by
  obtain ⟨hi, rfl⟩ := List.getElem?_eq_some_iff.1 h
  exact List.drop_eq_getElem_cons hi

set_option maxHeartbeats 2000000 in
/-- (*couchant/deed.roll).move. -/
theorem c_move (b : Nat) (n : Nm) (s : St) (a c k : Int) (ha : 1 ≤ a ∧ a ≤ 40) (hc : 1 ≤ c ∧ c ≤ 40) (hB : StB s) (hk : 0 ≤ k ∧ k ≤ 2000000000) (w : World) (S0 : Own (rollS TY b n s).fp w w [rollS TY b n s]) :
    Cl Tryz.prog 157 #[.pointer (some ⟨b, 0, none⟩), .int .i64 a, .int .i64 c, .int .i64 k] w fun _ w' => ∃ n', Own (rollS TY b n s).fp w w' [rollS TY b n' (moveS s a c k)] := by
  have hil := idsS_len s a
  obtain ⟨hs, pf, sf, hR0⟩ := RollRO.of (S0.ro 0 rfl)
  refine fn_of_run (args := [_, _, _, _]) 44 Tryz.func157 rfl rfl rfl fun cs => ?_
  have S := S0
  refine r_seq ?_
  refine r_region ?_
  refine l_x rfl (x_mv rfl) ?_
  refine l_x rfl (x_mv rfl) ?_
  refine l_call [] [] [_, _] rfl rfl Tryz.call162 rfl (c_entered b n s hs pf sf _ _ hR0) ?_
  rintro v131 w1 ⟨hN131, hl131⟩
  have S2 := S.add hl131 hN131
  refine l_x rfl (x_len (vec_rd (S2.at 1 rfl)) rfl Tryz.runUnderlying23) ?_
  refine l_x rfl (x_mv rfl) ?_
  refine l_nil ?_
  refine r_block ?_
  refine r_loop (G := Nat × Nm × St × Int) (fun ⟨i, n1, s1, k1⟩ => (idsS s a).length - i) (fun ⟨i, n1, s1, k1⟩ => [(0, .pointer (some ⟨b, 0, none⟩)), (1, .int .i64 a), (2, .int .i64 c), (3, .int .i64 k1), (13, v131), (14, .int .i64 (idsS s a).length), (15, .int .i64 i)]) (fun ⟨i, n1, s1, k1⟩ w' => (i ≤ (idsS s a).length) ∧ (MvI s s1 a c ((idsS s a).drop i) k k1) ∧ Own (rollS TY b n s).fp w w' [rollS TY b n1 s1, vec EI v131 (idsS s a)]) (0, n, s, k) ⟨rfl, rfl, rfl, rfl, rfl, rfl, rfl, trivial⟩ ⟨Nat.zero_le _, by rw [List.drop_zero]; exact .start hk.1, (S2.take 2)⟩ ?_
  rintro ⟨i, n1, s1, k1⟩ ρ w1 ⟨hi, hI, S1⟩ IH
  refine r_seq ?_
  refine r_region ?_
  refine l_x rfl (x_lss rfl rfl) ?_
  refine l_nil ?_
  refine r_seq ?_
  refine r_ifd rfl (fun hc16 => ?_) (fun hc16 => ?_)
  · skip
    obtain ⟨y, hy⟩ : ∃ y, (idsS s a)[i]? = some y := ⟨_, List.getElem?_eq_getElem (by omega)⟩
    have hdr := drop_get hy
    rw [hdr] at hI
    have hy1 := hI.sub y (List.mem_cons_self ..)
    have hkk := hI.k0
    have ham := hI.amount hB
    have hI2 := hI.step hB
    obtain ⟨hs1, pf1, sf1, hR⟩ := RollRO.of (S1.ro 0 rfl)
    refine r_skip ?_
    refine r_seq ?_
    refine r_block ?_
    refine r_seq ?_
    refine r_region ?_
    refine l_index EI rfl (vec_rd (S1.at 1 rfl)) rfl rfl Tryz.runUnderlying23 Tryz.sizeOf3 (by omega) hy ?_
    intro b3 o4 hat5 row6
    refine l_x rfl (x_load rfl (ld_cell Tryz.isAgg3 (row6 0 _ rfl))) ?_
    refine l_x rfl (x_as rfl) ?_
    refine l_nil ?_
    refine r_seq ?_
    refine r_region ?_
    refine l_x rfl (x_mv rfl) ?_
    refine l_x rfl (x_mv rfl) ?_
    refine l_x rfl (x_nilCheck rfl) ?_
    refine l_x rfl (x_fieldAddr rfl Tryz.runUnderlying81 rfl Tryz.sizeOf79 (by decide)) ?_
    refine l_x rfl (x_load rfl (ld_blk hR.blk Tryz.isAgg79 rfl)) ?_
    refine l_x rfl (x_mv rfl) ?_
    refine l_x rfl (x_lookup hR.sm keyI Tryz.runUnderlying79 rfl rfl Tryz.zeroValue76 (show (_ : Value) = (Nm.inn n1 a).elim (.map none) mV from rfl)) ?_
    refine l_x rfl (x_mv rfl) ?_
    refine l_x rfl (x_inn hR keyI Tryz.runUnderlying76 Tryz.zeroValue3 (o := a) rfl rfl) ?_
    refine l_x rfl (x_min rfl rfl) ?_
    refine l_x rfl (x_as rfl) ?_
    refine l_nil ?_
    refine r_seq ?_
    refine r_region ?_
    refine l_x rfl (x_mv rfl) ?_
    refine l_x rfl (x_mv rfl) ?_
    refine l_x rfl (x_mv rfl) ?_
    refine l_x rfl (x_mv rfl) ?_
    refine l_x rfl (x_neg rfl (by omega)) ?_
    refine l_call [] [] [_, _, _, _] rfl rfl Tryz.call154 rfl (c_add b n1 s1 a y (-min k1 (s1.src a y)) ha hy1 (by have := hI.src a y; have := hB.sb a y; omega) (by have := hI.holds a; have := hB.hb a; omega) (by omega) _ (S1.lend 0 rfl)) ?_
    rintro _ w7 ⟨nn9, hb10⟩
    have S8 := S1.back 0 rfl hb10
    refine l_nil ?_
    refine r_seq ?_
    refine r_region ?_
    refine l_x rfl (x_mv rfl) ?_
    refine l_x rfl (x_mv rfl) ?_
    refine l_x rfl (x_mv rfl) ?_
    refine l_x rfl (x_mv rfl) ?_
    refine l_call [] [] [_, _, _, _] rfl rfl Tryz.call154 rfl (c_add b nn9 (addS s1 a y (-min k1 (s1.src a y))) c y (min k1 (s1.src a y)) hc hy1 (by have := hI.src c y; have := hB.sb c y; rw [addS_src]; split <;> omega) (by have := hI.holds c; have := hB.hb c; rw [addS_holds]; split <;> omega) (by omega) _ (S8.lend 0 rfl)) ?_
    rintro _ w11 ⟨nn13, hb14⟩
    have S12 := S8.back 0 rfl hb14
    refine l_nil ?_
    refine r_region ?_
    refine l_x rfl (x_mv rfl) ?_
    refine l_x rfl (x_mv rfl) ?_
    refine l_x rfl (x_sub rfl rfl (by omega)) ?_
    refine l_x rfl (x_as rfl) ?_
    refine l_nil ?_
    refine r_inBlock ?_
    refine r_region ?_
    refine l_x rfl (x_add rfl rfl (by omega)) ?_
    refine l_x rfl (x_mv rfl) ?_
    refine l_nil ?_
    exact IH (i + 1, nn13, addS (addS s1 a y (-min k1 (s1.src a y))) c y (min k1 (s1.src a y)), k1 - min k1 (s1.src a y)) _ _ (by dsimp only; omega) ⟨rfl, rfl, rfl, rfl, rfl, rfl, rfl, trivial⟩ ⟨by omega, hI2, (S12.take 2)⟩
  obtain rfl : i = (idsS s a).length := by omega
  rw [List.drop_length] at hI
  have hdn := hI.done
  refine r_exit rfl ?_
  refine r_end (rs := []) [] Tryz.func157 rfl trivial ?_
  exact ⟨n1, by rw [← hdn]; exact S1.take 1⟩

end Go.Proofs

/-
  Contracts of functions of the program: each by symbolic execution of its text.
-/
namespace Go.Proofs
open Go Go.Vk Go.Vk.Flow

open Go.Vk.Deed
/-- The contract of what a kind of deed does. -/
theorem c_freeS (b : Nat) (n : Nm) (s : St) (o day : Int) (hB : StB s) (w : World) (h : RO (rollS TY b n s) w) : Cl Tryz.prog 156 #[.pointer (some ⟨b, 0, none⟩), .int .i64 o, .int .i64 day] w fun v w' => v = .int .i64 (free s o day) ∧ Le w w' :=
  let ⟨hs, pf, sf, hR⟩ := RollRO.of h
  c_free b n s hs pf sf o day hB w hR

set_option maxHeartbeats 2000000 in
/-- (*couchant/deed.roll).enter. -/
theorem c_enter (b : Nat) (n : Nm) (s : St) (a : Rw) (hf : formed a.1 = true) (hB : StB s) (hk : a.1.kind = 1)  (w : World) (S0 : Own (rollS TY b n s).fp w w [rollS TY b n s]) :
    Cl Tryz.prog 132 #[.pointer (some ⟨b, 0, none⟩), .agg (encD a).toArray] w fun _ w' => ∃ n' s', do1 s a.1 = some s' ∧ Own (rollS TY b n s).fp w w' [rollS TY b n' s'] := by
  have hq := formed_ent hf hk
  have hi := formed_id hf
  have hb1 := hB.sb a.1.to a.1.id
  have hb2 := hB.hb a.1.to
  refine fn_of_run (args := [_, _]) 12 Tryz.func132 rfl rfl rfl fun cs => ?_
  have S := S0
  refine r_seq ?_
  refine r_region ?_
  refine l_box S rfl rfl ?_
  intro b4 w1 S2 hl3
  refine l_nil ?_
  refine r_region ?_
  refine l_x rfl (x_mv rfl) ?_
  refine l_x rfl (x_fieldAddr rfl Tryz.runUnderlying45 rfl Tryz.sizeOf3 (by decide)) ?_
  refine l_x rfl (x_load rfl (ld_blk (S2.blk 1 rfl) Tryz.isAgg3 rfl)) ?_
  refine l_x rfl (x_fieldAddr rfl Tryz.runUnderlying45 rfl Tryz.sizeOf3 (by decide)) ?_
  refine l_x rfl (x_load rfl (ld_blk (S2.blk 1 rfl) Tryz.isAgg3 rfl)) ?_
  refine l_x rfl (x_fieldAddr rfl Tryz.runUnderlying45 rfl Tryz.sizeOf3 (by decide)) ?_
  refine l_x rfl (x_load rfl (ld_blk (S2.blk 1 rfl) Tryz.isAgg3 rfl)) ?_
  refine l_call [] [] [_, _, _, _] rfl rfl Tryz.call154 rfl (c_add b n s a.1.to a.1.id a.1.parts hq.1 hi.1 (by omega) (by omega) (by omega) _ (S2.lend 0 rfl)) ?_
  rintro _ w5 ⟨nn7, hb8⟩
  have S6 := S2.back 0 rfl hb8
  refine l_nil ?_
  refine r_end (rs := []) [] Tryz.func132 rfl trivial ?_
  exact ⟨nn7, _, do_enter hk, S6.take 1⟩

set_option maxHeartbeats 2000000 in
/-- (*couchant/deed.roll).grant. -/
theorem c_grant (b : Nat) (n : Nm) (s : St) (a : Rw) (hf : formed a.1 = true) (hB : StB s) (hk : a.1.kind = 2)  (w : World) (S0 : Own (rollS TY b n s).fp w w [rollS TY b n s]) :
    Cp Tryz.prog 133 #[.pointer (some ⟨b, 0, none⟩), .agg (encD a).toArray] w (fun _ w' => ∃ n' s', do1 s a.1 = some s' ∧ Own (rollS TY b n s).fp w w' [rollS TY b n' s']) (fun v w' => v = .iface 156 (.agg #[]) ∧ do1 s a.1 = none ∧ ∃ n', Own (rollS TY b n s).fp w w' [rollS TY b n' s]) := by
  have hq := formed_two hf (by omega)
  refine fn_of_runP (args := [_, _]) 22 Tryz.func133 rfl rfl rfl fun cs => ?_
  have S := S0
  refine r_seq ?_
  refine r_region ?_
  refine l_box S rfl rfl ?_
  intro b4 w1 S2 hl3
  refine l_nil ?_
  refine r_seq ?_
  refine r_drawR 9 Tryz.mixed (by kernel_rfl) ?_
  refine w_x rfl (fun w1 h1 => x_mv rfl) ?_
  refine w_x rfl (fun w1 h1 => x_fieldAddr rfl Tryz.runUnderlying45 rfl Tryz.sizeOf3 (by decide)) ?_
  refine w_x rfl (fun w1 h1 => x_load rfl (ld_blk ((S2.step h1).blk 1 rfl) Tryz.isAgg3 rfl)) ?_
  refine w_x rfl (fun w1 h1 => x_fieldAddr rfl Tryz.runUnderlying45 rfl Tryz.sizeOf3 (by decide)) ?_
  refine w_x rfl (fun w1 h1 => x_load rfl (ld_blk ((S2.step h1).blk 1 rfl) Tryz.isAgg3 rfl)) ?_
  refine wd_call [] [] [_, _, _] rfl rfl Tryz.call156 rfl (fun w1 h1 => c_freeS b n s _ _ hB _ ((S2.step h1).ro 0 rfl)) ?_
  refine w_x rfl (fun w1 h1 => x_fieldAddr rfl Tryz.runUnderlying45 rfl Tryz.sizeOf3 (by decide)) ?_
  refine w_x rfl (fun w1 h1 => x_load rfl (ld_blk ((S2.step h1).blk 1 rfl) Tryz.isAgg3 rfl)) ?_
  refine w_x rfl (fun w1 h1 => x_geq rfl rfl) ?_
  refine w_nil ?_
  intro w5 hl6
  have S7 := S2.step hl6
  refine l_callP [] [] [_] rfl rfl Tryz.call155 rfl (c_need _ _) ?_ ?_
  · skip
    rintro _ w8 ⟨hok10, hl10⟩
    have S9 := S7.step hl10
    refine l_nil ?_
    refine r_region ?_
    refine l_x rfl (x_mv rfl) ?_
    refine l_x rfl (x_fieldAddr rfl Tryz.runUnderlying45 rfl Tryz.sizeOf3 (by decide)) ?_
    refine l_x rfl (x_load rfl (ld_blk (S9.blk 1 rfl) Tryz.isAgg3 rfl)) ?_
    refine l_x rfl (x_fieldAddr rfl Tryz.runUnderlying45 rfl Tryz.sizeOf3 (by decide)) ?_
    refine l_x rfl (x_load rfl (ld_blk (S9.blk 1 rfl) Tryz.isAgg3 rfl)) ?_
    refine l_x rfl (x_fieldAddr rfl Tryz.runUnderlying45 rfl Tryz.sizeOf3 (by decide)) ?_
    refine l_x rfl (x_load rfl (ld_blk (S9.blk 1 rfl) Tryz.isAgg3 rfl)) ?_
    refine l_call [] [] [_, _, _, _] rfl rfl Tryz.call157 rfl (c_move b n s a.1.frm a.1.to a.1.parts hq.1 hq.2.1 hB (by omega) _ (S9.lend 0 rfl)) ?_
    rintro _ w11 ⟨nn13, hb14⟩
    have S12 := S9.back 0 rfl hb14
    refine l_nil ?_
    refine p_end (rs := []) [] Tryz.func133 rfl trivial ?_
    exact ⟨nn13, _, do_grant hk (of_decide_eq_true hok10), S12.take 1⟩
  rintro _ w15 k ⟨hno17, rfl, hl17⟩
  have S16 := S7.step hl17
  exact leaveU_panic Tryz.func133 ⟨rfl, do_grant0 hk (of_decide_eq_false hno17), n, S16.take 1⟩

set_option maxHeartbeats 2000000 in
/-- (*couchant/deed.roll).lease. -/
theorem c_lease (b : Nat) (n : Nm) (s : St) (a : Rw) (hf : formed a.1 = true) (hB : StB s) (hk : a.1.kind = 4)  (w : World) (S0 : Own (rollS TY b n s).fp w w [rollS TY b n s]) :
    Cp Tryz.prog 135 #[.pointer (some ⟨b, 0, none⟩), .agg (encD a).toArray] w (fun _ w' => ∃ n' s', do1 s a.1 = some s' ∧ Own (rollS TY b n s).fp w w' [rollS TY b n' s']) (fun v w' => v = .iface 156 (.agg #[]) ∧ do1 s a.1 = none ∧ ∃ n', Own (rollS TY b n s).fp w w' [rollS TY b n' s]) := by
  have hq := formed_two hf (by omega)
  have hll := hB.ll
  refine fn_of_runP (args := [_, _]) 37 Tryz.func135 rfl rfl rfl fun cs => ?_
  have S := S0
  refine r_seq ?_
  refine r_region ?_
  refine l_box S rfl rfl ?_
  intro b4 w1 S2 hl3
  refine l_nil ?_
  refine r_seq ?_
  refine r_drawR 9 Tryz.mixed (by kernel_rfl) ?_
  refine w_x rfl (fun w1 h1 => x_mv rfl) ?_
  refine w_x rfl (fun w1 h1 => x_fieldAddr rfl Tryz.runUnderlying45 rfl Tryz.sizeOf3 (by decide)) ?_
  refine w_x rfl (fun w1 h1 => x_load rfl (ld_blk ((S2.step h1).blk 1 rfl) Tryz.isAgg3 rfl)) ?_
  refine w_x rfl (fun w1 h1 => x_fieldAddr rfl Tryz.runUnderlying45 rfl Tryz.sizeOf3 (by decide)) ?_
  refine w_x rfl (fun w1 h1 => x_load rfl (ld_blk ((S2.step h1).blk 1 rfl) Tryz.isAgg3 rfl)) ?_
  refine wd_call [] [] [_, _, _] rfl rfl Tryz.call156 rfl (fun w1 h1 => c_freeS b n s _ _ hB _ ((S2.step h1).ro 0 rfl)) ?_
  refine w_x rfl (fun w1 h1 => x_fieldAddr rfl Tryz.runUnderlying45 rfl Tryz.sizeOf3 (by decide)) ?_
  refine w_x rfl (fun w1 h1 => x_load rfl (ld_blk ((S2.step h1).blk 1 rfl) Tryz.isAgg3 rfl)) ?_
  refine w_x rfl (fun w1 h1 => x_geq rfl rfl) ?_
  refine w_nil ?_
  intro w5 hl6
  have S7 := S2.step hl6
  refine l_callP [] [] [_] rfl rfl Tryz.call155 rfl (c_need _ _) ?_ ?_
  · skip
    rintro _ w8 ⟨hok10, hl10⟩
    have S9 := S7.step hl10
    refine l_nil ?_
    obtain ⟨hs, pf, sf, hok, So⟩ := Own.rollOpen (A := [_]) ((S9).pick (L' := [_, _]) [1, 0] (by decide) rfl)
    refine r_drawE 21 (Rsc.fp (vec ELS n.lv s.leases)) Tryz.mixed (by kernel_rfl) ?_
    intro w11 hl12
    have S13 := So.step hl12
    refine e_exact 0 _ (by kernel_rfl) rfl rfl (by kernel_rfl) rfl (ex_x rfl (fun w1 h1 => x_mv rfl)) ?_
    refine e_exact 1 _ (by kernel_rfl) rfl rfl (by kernel_rfl) rfl (ex_x rfl (fun w1 h1 => x_mv rfl)) ?_
    refine e_exact 2 _ (by kernel_rfl) rfl rfl (by kernel_rfl) rfl (ex_x rfl (fun w1 h1 => x_nilCheck rfl)) ?_
    refine e_exact 3 _ (by kernel_rfl) rfl rfl (by kernel_rfl) rfl (ex_x rfl (fun w1 h1 => x_fieldAddr rfl Tryz.runUnderlying81 rfl Tryz.sizeOf77 (by decide))) ?_
    refine e_exact 4 _ (by kernel_rfl) rfl rfl (by kernel_rfl) rfl (ex_x rfl (fun w1 h1 => x_load rfl (ld_blk ((S13.under 3 rfl h1).blk 1 rfl) Tryz.isAgg77 rfl))) ?_
    refine e_exact 5 _ (by kernel_rfl) rfl rfl (by kernel_rfl) rfl (ex_x rfl (fun w1 h1 => x_fieldAddr rfl Tryz.runUnderlying45 rfl Tryz.sizeOf3 (by decide))) ?_
    refine e_exact 6 _ (by kernel_rfl) rfl rfl (by kernel_rfl) rfl (ex_x rfl (fun w1 h1 => x_load rfl (ld_blk ((S13.under 3 rfl h1).blk 0 rfl) Tryz.isAgg3 rfl))) ?_
    refine e_exact 7 _ (by kernel_rfl) rfl rfl (by kernel_rfl) rfl (ex_x rfl (fun w1 h1 => x_fieldAddr rfl Tryz.runUnderlying45 rfl Tryz.sizeOf3 (by decide))) ?_
    refine e_exact 8 _ (by kernel_rfl) rfl rfl (by kernel_rfl) rfl (ex_x rfl (fun w1 h1 => x_load rfl (ld_blk ((S13.under 3 rfl h1).blk 0 rfl) Tryz.isAgg3 rfl))) ?_
    refine e_exact 9 _ (by kernel_rfl) rfl rfl (by kernel_rfl) rfl (ex_x rfl (fun w1 h1 => x_fieldAddr rfl Tryz.runUnderlying45 rfl Tryz.sizeOf3 (by decide))) ?_
    refine e_exact 10 _ (by kernel_rfl) rfl rfl (by kernel_rfl) rfl (ex_x rfl (fun w1 h1 => x_load rfl (ld_blk ((S13.under 3 rfl h1).blk 0 rfl) Tryz.isAgg3 rfl))) ?_
    refine e_exact 11 _ (by kernel_rfl) rfl rfl (by kernel_rfl) rfl (ex_x rfl (fun w1 h1 => x_fieldAddr rfl Tryz.runUnderlying45 rfl Tryz.sizeOf3 (by decide))) ?_
    refine e_exact 12 _ (by kernel_rfl) rfl rfl (by kernel_rfl) rfl (ex_x rfl (fun w1 h1 => x_load rfl (ld_blk ((S13.under 3 rfl h1).blk 0 rfl) Tryz.isAgg3 rfl))) ?_
    refine e_exact 13 _ (by kernel_rfl) rfl rfl (by kernel_rfl) rfl (ex_x rfl (fun w1 h1 => x_fieldAddr rfl Tryz.runUnderlying45 rfl Tryz.sizeOf3 (by decide))) ?_
    refine e_exact 14 _ (by kernel_rfl) rfl rfl (by kernel_rfl) rfl (ex_x rfl (fun w1 h1 => x_load rfl (ld_blk ((S13.under 3 rfl h1).blk 0 rfl) Tryz.isAgg3 rfl))) ?_
    refine e_exact 15 _ (by kernel_rfl) rfl rfl (by kernel_rfl) rfl (ex_x rfl (fun w1 h1 => x_buildS (out := [_, _, _, _, _]) (ss := [1, 1, 1, 1, 1]) Tryz.zeroValue133 rfl Tryz.runUnderlying133 ⟨Tryz.sizeOf3, Tryz.sizeOf3, Tryz.sizeOf3, Tryz.sizeOf3, Tryz.sizeOf3, trivial⟩ (fill_cons rfl rfl rfl (Nat.le_of_ble_eq_true rfl) (fill_cons rfl rfl rfl (Nat.le_of_ble_eq_true rfl) (fill_cons rfl rfl rfl (Nat.le_of_ble_eq_true rfl) (fill_cons rfl rfl rfl (Nat.le_of_ble_eq_true rfl) (fill_cons rfl rfl rfl (Nat.le_of_ble_eq_true rfl) fill_nil))))))) ?_
    refine e_exact 16 _ (by kernel_rfl) rfl rfl (by kernel_rfl) rfl (ex_x rfl (fun w1 h1 => x_fieldAddr rfl Tryz.runUnderlying45 rfl Tryz.sizeOf3 (by decide))) ?_
    refine e_exact 17 _ (by kernel_rfl) rfl rfl (by kernel_rfl) rfl (ex_x rfl (fun w1 h1 => x_load rfl (ld_blk ((S13.under 3 rfl h1).blk 0 rfl) Tryz.isAgg3 rfl))) ?_
    refine e_exact 18 _ (by kernel_rfl) rfl rfl (by kernel_rfl) rfl (ex_x rfl (fun w1 h1 => x_buildS (out := [_, _, _, _, _, _]) (ss := [5, 1]) Tryz.zeroValue135 rfl Tryz.runUnderlying135 ⟨Tryz.sizeOf133, Tryz.sizeOf3, trivial⟩ (fill_cons rfl rfl rfl (Nat.le_of_ble_eq_true rfl) (fill_cons rfl rfl rfl (Nat.le_of_ble_eq_true rfl) fill_nil)))) ?_
    refine e_next [19] (by kernel_rfl) (by kernel_rfl) ⟨⟨_, _, rfl, rfl, ?_⟩, trivial⟩
    refine s_buildSlice ELS [⟨a.1.id, a.1.frm, a.1.to, a.1.parts, a.1.stop, a.1.day⟩] S13 rfl Tryz.runUnderlying77 Tryz.sizeOf135 Tryz.zeroValue135 rfl ⟨rfl, rfl, trivial⟩ (by decide) ?_
    intro v17 w14 S15 hl16
    refine ⟨.of_le hl16, ?_⟩
    refine e_next [20] (by kernel_rfl) (by kernel_rfl) ⟨⟨_, _, rfl, rfl, ?_⟩, trivial⟩
    refine s_append ELS S15 3 rfl rfl rfl rfl (vec_rd (S15.at 8 rfl)) Tryz.underlying77 info135 rfl rfl rfl (by unfold maxLen; simp; omega) (by show _ * 48 ≤ _; simp; omega) ?_
    intro v21 w18 S19 hk20 hv22
    refine ⟨hk20, ?_⟩
    refine e_done (by kernel_rfl) ?_
    refine l_x rfl (x_nilCheck rfl) ?_
    refine l_x rfl (x_fieldAddr rfl Tryz.runUnderlying81 rfl Tryz.sizeOf77 (by decide)) ?_
    refine l_storeq (c' := [_, _, _, _, _]) (v := v21) S19 1 rfl rfl rfl rfl (Rd.one (vec_rd (S19.at 3 rfl))) Tryz.sizeOf77 (by first | (simp; done) | exact Nat.le_of_ble_eq_true rfl) rfl ?_
    intro w23 S24 hk25
    refine l_nil ?_
    refine p_end (rs := []) [] Tryz.func135 rfl trivial ?_
    exact ⟨{ n with lv := v21 }, _, do_lease hk (of_decide_eq_true hok10), Own.rollShut (A := []) (s := leaseS s a.1) (S24.pick (L' := [_, _, _, _, _, _, _]) [1, 2, 3, 4, 5, 6, 7] (by decide) rfl) hok.lease⟩
  rintro _ w26 k ⟨hno28, rfl, hl28⟩
  have S27 := S7.step hl28
  exact leaveU_panic Tryz.func135 ⟨rfl, do_lease0 hk (of_decide_eq_false hno28), n, S27.take 1⟩

set_option maxHeartbeats 2000000 in
/-- (*couchant/deed.roll).pledge. -/
theorem c_pledge (b : Nat) (n : Nm) (s : St) (a : Rw) (hf : formed a.1 = true) (hB : StB s) (hk : a.1.kind = 5) (hnew : ∀ p ∈ s.pledges, p.deed ≠ a.1.id) (w : World) (S0 : Own (rollS TY b n s).fp w w [rollS TY b n s]) :
    Cp Tryz.prog 136 #[.pointer (some ⟨b, 0, none⟩), .agg (encD a).toArray] w (fun _ w' => ∃ n' s', do1 s a.1 = some s' ∧ Own (rollS TY b n s).fp w w' [rollS TY b n' s']) (fun v w' => v = .iface 156 (.agg #[]) ∧ do1 s a.1 = none ∧ ∃ n', Own (rollS TY b n s).fp w w' [rollS TY b n' s]) := by
  have hq := formed_two hf (by omega)
  refine fn_of_runP (args := [_, _]) 29 Tryz.func136 rfl rfl rfl fun cs => ?_
  have S := S0
  refine r_seq ?_
  refine r_region ?_
  refine l_box S rfl rfl ?_
  intro b4 w1 S2 hl3
  refine l_nil ?_
  refine r_seq ?_
  refine r_drawR 9 Tryz.mixed (by kernel_rfl) ?_
  refine w_x rfl (fun w1 h1 => x_mv rfl) ?_
  refine w_x rfl (fun w1 h1 => x_fieldAddr rfl Tryz.runUnderlying45 rfl Tryz.sizeOf3 (by decide)) ?_
  refine w_x rfl (fun w1 h1 => x_load rfl (ld_blk ((S2.step h1).blk 1 rfl) Tryz.isAgg3 rfl)) ?_
  refine w_x rfl (fun w1 h1 => x_fieldAddr rfl Tryz.runUnderlying45 rfl Tryz.sizeOf3 (by decide)) ?_
  refine w_x rfl (fun w1 h1 => x_load rfl (ld_blk ((S2.step h1).blk 1 rfl) Tryz.isAgg3 rfl)) ?_
  refine wd_call [] [] [_, _, _] rfl rfl Tryz.call156 rfl (fun w1 h1 => c_freeS b n s _ _ hB _ ((S2.step h1).ro 0 rfl)) ?_
  refine w_x rfl (fun w1 h1 => x_fieldAddr rfl Tryz.runUnderlying45 rfl Tryz.sizeOf3 (by decide)) ?_
  refine w_x rfl (fun w1 h1 => x_load rfl (ld_blk ((S2.step h1).blk 1 rfl) Tryz.isAgg3 rfl)) ?_
  refine w_x rfl (fun w1 h1 => x_geq rfl rfl) ?_
  refine w_nil ?_
  intro w5 hl6
  have S7 := S2.step hl6
  refine l_callP [] [] [_] rfl rfl Tryz.call155 rfl (c_need _ _) ?_ ?_
  · skip
    rintro _ w8 ⟨hok10, hl10⟩
    have S9 := S7.step hl10
    refine l_nil ?_
    obtain ⟨hs, pf, sf, hok, So⟩ := Own.rollOpen (A := [_]) ((S9).pick (L' := [_, _]) [1, 0] (by decide) rfl)
    refine r_drawR 15 Tryz.mixed (by kernel_rfl) ?_
    refine w_x rfl (fun w1 h1 => x_mv rfl) ?_
    refine w_x rfl (fun w1 h1 => x_nilCheck rfl) ?_
    refine w_x rfl (fun w1 h1 => x_fieldAddr rfl Tryz.runUnderlying81 rfl Tryz.sizeOf78 (by decide)) ?_
    refine w_x rfl (fun w1 h1 => x_load rfl (ld_blk ((So.step h1).blk 1 rfl) Tryz.isAgg78 rfl)) ?_
    refine w_x rfl (fun w1 h1 => x_fieldAddr rfl Tryz.runUnderlying45 rfl Tryz.sizeOf3 (by decide)) ?_
    refine w_x rfl (fun w1 h1 => x_load rfl (ld_blk ((So.step h1).blk 0 rfl) Tryz.isAgg3 rfl)) ?_
    refine w_x rfl (fun w1 h1 => x_fieldAddr rfl Tryz.runUnderlying45 rfl Tryz.sizeOf3 (by decide)) ?_
    refine w_x rfl (fun w1 h1 => x_load rfl (ld_blk ((So.step h1).blk 0 rfl) Tryz.isAgg3 rfl)) ?_
    refine w_x rfl (fun w1 h1 => x_fieldAddr rfl Tryz.runUnderlying45 rfl Tryz.sizeOf3 (by decide)) ?_
    refine w_x rfl (fun w1 h1 => x_load rfl (ld_blk ((So.step h1).blk 0 rfl) Tryz.isAgg3 rfl)) ?_
    refine w_x rfl (fun w1 h1 => x_fieldAddr rfl Tryz.runUnderlying45 rfl Tryz.sizeOf3 (by decide)) ?_
    refine w_x rfl (fun w1 h1 => x_load rfl (ld_blk ((So.step h1).blk 0 rfl) Tryz.isAgg3 rfl)) ?_
    refine w_x rfl (fun w1 h1 => x_fieldAddr rfl Tryz.runUnderlying45 rfl Tryz.sizeOf3 (by decide)) ?_
    refine w_x rfl (fun w1 h1 => x_load rfl (ld_blk ((So.step h1).blk 0 rfl) Tryz.isAgg3 rfl)) ?_
    refine w_x rfl (fun w1 h1 => x_buildS (out := [_, _, _, _]) (ss := [1, 1, 1, 1]) Tryz.zeroValue154 rfl Tryz.runUnderlying154 ⟨Tryz.sizeOf3, Tryz.sizeOf3, Tryz.sizeOf3, Tryz.sizeOf3, trivial⟩ (fill_cons rfl rfl rfl (Nat.le_of_ble_eq_true rfl) (fill_cons rfl rfl rfl (Nat.le_of_ble_eq_true rfl) (fill_cons rfl rfl rfl (Nat.le_of_ble_eq_true rfl) (fill_cons rfl rfl rfl (Nat.le_of_ble_eq_true rfl) fill_nil))))) ?_
    refine w_nil ?_
    intro w11 hl12
    have S13 := So.step hl12
    refine l_mapUpdate (a0 := ⟨a.1.id, a.1.frm, a.1.to, a.1.parts⟩) S13 4 rfl rfl keyI Tryz.runUnderlying78 rfl rfl rfl ?_
    intro w14 S15 hk16
    refine l_nil ?_
    refine p_end (rs := []) [] Tryz.func136 rfl trivial ?_
    exact ⟨n, _, do_pledge hk (of_decide_eq_true hok10), Own.rollShut (A := []) (s := pledgeS s a.1) (S15.pick (L' := [_, _, _, _, _, _, _]) [1, 2, 3, 4, 5, 6, 7] (by decide) rfl) (hok.pledge hnew)⟩
  rintro _ w17 k ⟨hno19, rfl, hl19⟩
  have S18 := S7.step hl19
  exact leaveU_panic Tryz.func136 ⟨rfl, do_pledge0 hk (of_decide_eq_false hno19), n, S18.take 1⟩

set_option maxHeartbeats 2000000 in
/-- (*couchant/deed.roll).redeem. -/
theorem c_redeem (b : Nat) (n : Nm) (s : St) (a : Rw) (hf : formed a.1 = true) (hB : StB s) (hk : a.1.kind = 6)  (w : World) (S0 : Own (rollS TY b n s).fp w w [rollS TY b n s]) :
    Cp Tryz.prog 137 #[.pointer (some ⟨b, 0, none⟩), .agg (encD a).toArray] w (fun _ w' => ∃ n' s', do1 s a.1 = some s' ∧ Own (rollS TY b n s).fp w w' [rollS TY b n' s']) (fun v w' => v = .iface 156 (.agg #[]) ∧ do1 s a.1 = none ∧ ∃ n', Own (rollS TY b n s).fp w w' [rollS TY b n' s]) := by
  refine fn_of_runP (args := [_, _]) 24 Tryz.func137 rfl rfl rfl fun cs => ?_
  have S := S0
  refine r_seq ?_
  refine r_region ?_
  refine l_box S rfl rfl ?_
  intro b4 w1 S2 hl3
  refine l_nil ?_
  refine r_seq ?_
  rcases hpl : plOf s a.1.of with _ | p
  · skip
    refine r_drawE 13 (yng w1) Tryz.mixed (by kernel_rfl) ?_
    intro w5 hl6
    have S7 := S2.step hl6
    have hy8 : Keep (yng w1) w1 w5 := .of_le hl6
    refine e_exact 0 _ (by kernel_rfl) rfl rfl (by kernel_rfl) rfl (ex_x rfl (fun w1 h1 => x_mv rfl)) ?_
    refine e_exact 1 _ (by kernel_rfl) rfl rfl (by kernel_rfl) rfl (ex_x rfl (fun w1 h1 => x_nilCheck rfl)) ?_
    refine e_exact 2 _ (by kernel_rfl) rfl rfl (by kernel_rfl) rfl (ex_x rfl (fun w1 h1 => x_fieldAddr rfl Tryz.runUnderlying81 rfl Tryz.sizeOf78 (by decide))) ?_
    refine e_exact 3 _ (by kernel_rfl) rfl rfl (by kernel_rfl) rfl (ex_x rfl (fun w1 h1 => x_load rfl (ld_blk (roll_blk ((S2.yng (hy8.trans h1)).ro 0 rfl)) Tryz.isAgg78 rfl))) ?_
    refine e_exact 4 _ (by kernel_rfl) rfl rfl (by kernel_rfl) rfl (ex_x rfl (fun w1 h1 => x_fieldAddr rfl Tryz.runUnderlying45 rfl Tryz.sizeOf3 (by decide))) ?_
    refine e_exact 5 _ (by kernel_rfl) rfl rfl (by kernel_rfl) rfl (ex_x rfl (fun w1 h1 => x_load rfl (ld_blk ((S2.yng (hy8.trans h1)).blk 1 rfl) Tryz.isAgg3 rfl))) ?_
    refine e_exact 6 _ (by kernel_rfl) rfl rfl (by kernel_rfl) rfl (ex_x rfl (fun w1 h1 => x_lookup2 (roll_pm ((S2.yng (hy8.trans h1)).ro 0 rfl)) keyI Tryz.runUnderlying78 rfl rfl Tryz.zeroValue154 (show (_ : Value) = .agg (encPl ⟨0, 0, 0, 0⟩).toArray from by rw [hpl] <;> rfl) (show _ = false from by rw [hpl] <;> rfl))) ?_
    refine e_exact 7 _ (by kernel_rfl) rfl rfl (by kernel_rfl) rfl (ex_x rfl (fun w1 h1 => x_mv rfl)) ?_
    refine e_exact 8 _ (by kernel_rfl) rfl rfl (by kernel_rfl) rfl (ex_x rfl (fun w1 h1 => x_extract rfl rfl)) ?_
    refine e_exact 9 _ (by kernel_rfl) rfl rfl (by kernel_rfl) rfl (ex_x rfl (fun w1 h1 => x_extract rfl rfl)) ?_
    refine e_next [10] (by kernel_rfl) (by kernel_rfl) ⟨⟨_, _, rfl, rfl, ?_⟩, trivial⟩
    refine s_allocY S7 rfl Tryz.zeroValue154 rfl ?_
    intro b12 w9 S10 hl11 hb13
    refine ⟨.of_le hl11, ?_⟩
    have hy14 : Keep (yng w1) w1 w9 := hy8.trans (Keep.of_le hl11)
    refine e_next [11] (by kernel_rfl) (by kernel_rfl) ⟨⟨_, _, rfl, rfl, ?_⟩, trivial⟩
    refine s_stores (vs := [_, _, _, _]) S10 2 rfl rfl rfl rfl (ones_cons rfl (ones_cons rfl (ones_cons rfl (ones_cons rfl ones_nil)))) Tryz.sizeOf154 (by first | exact Nat.le_refl _ | simp) (splice_all rfl) ?_
    intro w15 S16 hk17
    refine ⟨(yng_blk hy8 hb13 hk17), ?_⟩
    have hy18 : Keep (yng w1) w1 w15 := hy14.trans ((yng_blk hy8 hb13 hk17))
    refine e_exact 12 _ (by kernel_rfl) rfl rfl (by kernel_rfl) rfl (ex_x rfl (fun w1 h1 => x_as rfl)) ?_
    refine e_done (by kernel_rfl) ?_
    refine l_nil ?_
    refine r_seq ?_
    refine r_region ?_
    refine l_x rfl (x_mv rfl) ?_
    refine l_callP [] [] [_] rfl rfl Tryz.call155 rfl (c_need _ _) ?_ ?_
    · skip
      rintro _ w19 ⟨hok21, hl21⟩
      cases hok21
    rintro _ w22 k ⟨hno24, rfl, hl24⟩
    have S23 := S16.step hl24
    exact leaveU_panic Tryz.func137 ⟨rfl, do_redeem0 hk hpl, n, S23.take 1⟩
  refine r_drawE 13 (yng w1) Tryz.mixed (by kernel_rfl) ?_
  intro w25 hl26
  have S27 := S2.step hl26
  have hy28 : Keep (yng w1) w1 w25 := .of_le hl26
  refine e_exact 0 _ (by kernel_rfl) rfl rfl (by kernel_rfl) rfl (ex_x rfl (fun w1 h1 => x_mv rfl)) ?_
  refine e_exact 1 _ (by kernel_rfl) rfl rfl (by kernel_rfl) rfl (ex_x rfl (fun w1 h1 => x_nilCheck rfl)) ?_
  refine e_exact 2 _ (by kernel_rfl) rfl rfl (by kernel_rfl) rfl (ex_x rfl (fun w1 h1 => x_fieldAddr rfl Tryz.runUnderlying81 rfl Tryz.sizeOf78 (by decide))) ?_
  refine e_exact 3 _ (by kernel_rfl) rfl rfl (by kernel_rfl) rfl (ex_x rfl (fun w1 h1 => x_load rfl (ld_blk (roll_blk ((S2.yng (hy28.trans h1)).ro 0 rfl)) Tryz.isAgg78 rfl))) ?_
  refine e_exact 4 _ (by kernel_rfl) rfl rfl (by kernel_rfl) rfl (ex_x rfl (fun w1 h1 => x_fieldAddr rfl Tryz.runUnderlying45 rfl Tryz.sizeOf3 (by decide))) ?_
  refine e_exact 5 _ (by kernel_rfl) rfl rfl (by kernel_rfl) rfl (ex_x rfl (fun w1 h1 => x_load rfl (ld_blk ((S2.yng (hy28.trans h1)).blk 1 rfl) Tryz.isAgg3 rfl))) ?_
  refine e_exact 6 _ (by kernel_rfl) rfl rfl (by kernel_rfl) rfl (ex_x rfl (fun w1 h1 => x_lookup2 (roll_pm ((S2.yng (hy28.trans h1)).ro 0 rfl)) keyI Tryz.runUnderlying78 rfl rfl Tryz.zeroValue154 (show (_ : Value) = .agg (encPl p).toArray from by rw [hpl] <;> rfl) (show _ = true from by rw [hpl] <;> rfl))) ?_
  refine e_exact 7 _ (by kernel_rfl) rfl rfl (by kernel_rfl) rfl (ex_x rfl (fun w1 h1 => x_mv rfl)) ?_
  refine e_exact 8 _ (by kernel_rfl) rfl rfl (by kernel_rfl) rfl (ex_x rfl (fun w1 h1 => x_extract rfl rfl)) ?_
  refine e_exact 9 _ (by kernel_rfl) rfl rfl (by kernel_rfl) rfl (ex_x rfl (fun w1 h1 => x_extract rfl rfl)) ?_
  refine e_next [10] (by kernel_rfl) (by kernel_rfl) ⟨⟨_, _, rfl, rfl, ?_⟩, trivial⟩
  refine s_allocY S27 rfl Tryz.zeroValue154 rfl ?_
  intro b32 w29 S30 hl31 hb33
  refine ⟨.of_le hl31, ?_⟩
  have hy34 : Keep (yng w1) w1 w29 := hy28.trans (Keep.of_le hl31)
  refine e_next [11] (by kernel_rfl) (by kernel_rfl) ⟨⟨_, _, rfl, rfl, ?_⟩, trivial⟩
  refine s_stores (vs := [_, _, _, _]) S30 2 rfl rfl rfl rfl (ones_cons rfl (ones_cons rfl (ones_cons rfl (ones_cons rfl ones_nil)))) Tryz.sizeOf154 (by first | exact Nat.le_refl _ | simp) (splice_all rfl) ?_
  intro w35 S36 hk37
  refine ⟨(yng_blk hy28 hb33 hk37), ?_⟩
  have hy38 : Keep (yng w1) w1 w35 := hy34.trans ((yng_blk hy28 hb33 hk37))
  refine e_exact 12 _ (by kernel_rfl) rfl rfl (by kernel_rfl) rfl (ex_x rfl (fun w1 h1 => x_as rfl)) ?_
  refine e_done (by kernel_rfl) ?_
  refine l_nil ?_
  refine r_seq ?_
  refine r_region ?_
  refine l_x rfl (x_mv rfl) ?_
  refine l_callP [] [] [_] rfl rfl Tryz.call155 rfl (c_need _ _) ?_ ?_
  · skip
    rintro _ w39 ⟨hok41, hl41⟩
    have S40 := S36.step hl41
    refine l_nil ?_
    obtain ⟨hs, pf, sf, hok, So⟩ := Own.rollOpen (A := [_, _]) ((S40).pick (L' := [_, _, _]) [1, 2, 0] (by decide) rfl)
    refine r_drawR 6 Tryz.mixed (by kernel_rfl) ?_
    refine w_x rfl (fun w1 h1 => x_mv rfl) ?_
    refine w_x rfl (fun w1 h1 => x_nilCheck rfl) ?_
    refine w_x rfl (fun w1 h1 => x_fieldAddr rfl Tryz.runUnderlying81 rfl Tryz.sizeOf78 (by decide)) ?_
    refine w_x rfl (fun w1 h1 => x_load rfl (ld_blk ((So.step h1).blk 2 rfl) Tryz.isAgg78 rfl)) ?_
    refine w_x rfl (fun w1 h1 => x_fieldAddr rfl Tryz.runUnderlying45 rfl Tryz.sizeOf3 (by decide)) ?_
    refine w_x rfl (fun w1 h1 => x_load rfl (ld_blk ((So.step h1).blk 0 rfl) Tryz.isAgg3 rfl)) ?_
    refine w_nil ?_
    intro w42 hl43
    have S44 := So.step hl43
    refine l_delete S44 5 rfl rfl keyI Tryz.runUnderlying78 rfl rfl ?_
    intro w45 S46 hk47
    refine l_nil ?_
    refine p_end (rs := []) [] Tryz.func137 rfl trivial ?_
    exact ⟨n, _, do_redeem hk hpl, Own.rollShut (A := []) (s := redeemS s a.1.of) (S46.pick (L' := [_, _, _, _, _, _, _]) [2, 3, 4, 5, 6, 7, 8] (by decide) rfl) (hok.redeem _)⟩
  rintro _ w48 k ⟨hno50, rfl, hl50⟩
  cases hno50

set_option maxHeartbeats 2000000 in
/-- (*couchant/deed.roll).seize. -/
theorem c_seize (b : Nat) (n : Nm) (s : St) (a : Rw) (hf : formed a.1 = true) (hB : StB s) (hk : a.1.kind = 7)  (w : World) (S0 : Own (rollS TY b n s).fp w w [rollS TY b n s]) :
    Cp Tryz.prog 138 #[.pointer (some ⟨b, 0, none⟩), .agg (encD a).toArray] w (fun _ w' => ∃ n' s', do1 s a.1 = some s' ∧ Own (rollS TY b n s).fp w w' [rollS TY b n' s']) (fun v w' => v = .iface 156 (.agg #[]) ∧ do1 s a.1 = none ∧ ∃ n', Own (rollS TY b n s).fp w w' [rollS TY b n' s]) := by
  refine fn_of_runP (args := [_, _]) 32 Tryz.func138 rfl rfl rfl fun cs => ?_
  have S := S0
  refine r_seq ?_
  refine r_region ?_
  refine l_box S rfl rfl ?_
  intro b4 w1 S2 hl3
  refine l_nil ?_
  refine r_seq ?_
  rcases hpl : plOf s a.1.of with _ | p
  · skip
    refine r_drawE 13 (yng w1) Tryz.mixed (by kernel_rfl) ?_
    intro w5 hl6
    have S7 := S2.step hl6
    have hy8 : Keep (yng w1) w1 w5 := .of_le hl6
    refine e_exact 0 _ (by kernel_rfl) rfl rfl (by kernel_rfl) rfl (ex_x rfl (fun w1 h1 => x_mv rfl)) ?_
    refine e_exact 1 _ (by kernel_rfl) rfl rfl (by kernel_rfl) rfl (ex_x rfl (fun w1 h1 => x_nilCheck rfl)) ?_
    refine e_exact 2 _ (by kernel_rfl) rfl rfl (by kernel_rfl) rfl (ex_x rfl (fun w1 h1 => x_fieldAddr rfl Tryz.runUnderlying81 rfl Tryz.sizeOf78 (by decide))) ?_
    refine e_exact 3 _ (by kernel_rfl) rfl rfl (by kernel_rfl) rfl (ex_x rfl (fun w1 h1 => x_load rfl (ld_blk (roll_blk ((S2.yng (hy8.trans h1)).ro 0 rfl)) Tryz.isAgg78 rfl))) ?_
    refine e_exact 4 _ (by kernel_rfl) rfl rfl (by kernel_rfl) rfl (ex_x rfl (fun w1 h1 => x_fieldAddr rfl Tryz.runUnderlying45 rfl Tryz.sizeOf3 (by decide))) ?_
    refine e_exact 5 _ (by kernel_rfl) rfl rfl (by kernel_rfl) rfl (ex_x rfl (fun w1 h1 => x_load rfl (ld_blk ((S2.yng (hy8.trans h1)).blk 1 rfl) Tryz.isAgg3 rfl))) ?_
    refine e_exact 6 _ (by kernel_rfl) rfl rfl (by kernel_rfl) rfl (ex_x rfl (fun w1 h1 => x_lookup2 (roll_pm ((S2.yng (hy8.trans h1)).ro 0 rfl)) keyI Tryz.runUnderlying78 rfl rfl Tryz.zeroValue154 (show (_ : Value) = .agg (encPl ⟨0, 0, 0, 0⟩).toArray from by rw [hpl] <;> rfl) (show _ = false from by rw [hpl] <;> rfl))) ?_
    refine e_exact 7 _ (by kernel_rfl) rfl rfl (by kernel_rfl) rfl (ex_x rfl (fun w1 h1 => x_mv rfl)) ?_
    refine e_exact 8 _ (by kernel_rfl) rfl rfl (by kernel_rfl) rfl (ex_x rfl (fun w1 h1 => x_extract rfl rfl)) ?_
    refine e_exact 9 _ (by kernel_rfl) rfl rfl (by kernel_rfl) rfl (ex_x rfl (fun w1 h1 => x_extract rfl rfl)) ?_
    refine e_next [10] (by kernel_rfl) (by kernel_rfl) ⟨⟨_, _, rfl, rfl, ?_⟩, trivial⟩
    refine s_allocY S7 rfl Tryz.zeroValue154 rfl ?_
    intro b12 w9 S10 hl11 hb13
    refine ⟨.of_le hl11, ?_⟩
    have hy14 : Keep (yng w1) w1 w9 := hy8.trans (Keep.of_le hl11)
    refine e_next [11] (by kernel_rfl) (by kernel_rfl) ⟨⟨_, _, rfl, rfl, ?_⟩, trivial⟩
    refine s_stores (vs := [_, _, _, _]) S10 2 rfl rfl rfl rfl (ones_cons rfl (ones_cons rfl (ones_cons rfl (ones_cons rfl ones_nil)))) Tryz.sizeOf154 (by first | exact Nat.le_refl _ | simp) (splice_all rfl) ?_
    intro w15 S16 hk17
    refine ⟨(yng_blk hy8 hb13 hk17), ?_⟩
    have hy18 : Keep (yng w1) w1 w15 := hy14.trans ((yng_blk hy8 hb13 hk17))
    refine e_exact 12 _ (by kernel_rfl) rfl rfl (by kernel_rfl) rfl (ex_x rfl (fun w1 h1 => x_as rfl)) ?_
    refine e_done (by kernel_rfl) ?_
    refine l_nil ?_
    refine r_seq ?_
    refine r_region ?_
    refine l_x rfl (x_mv rfl) ?_
    refine l_callP [] [] [_] rfl rfl Tryz.call155 rfl (c_need _ _) ?_ ?_
    · skip
      rintro _ w19 ⟨hok21, hl21⟩
      cases hok21
    rintro _ w22 k ⟨hno24, rfl, hl24⟩
    have S23 := S16.step hl24
    exact leaveU_panic Tryz.func138 ⟨rfl, do_seize0 hk hpl, n, S23.take 1⟩
  refine r_drawE 13 (yng w1) Tryz.mixed (by kernel_rfl) ?_
  intro w25 hl26
  have S27 := S2.step hl26
  have hy28 : Keep (yng w1) w1 w25 := .of_le hl26
  refine e_exact 0 _ (by kernel_rfl) rfl rfl (by kernel_rfl) rfl (ex_x rfl (fun w1 h1 => x_mv rfl)) ?_
  refine e_exact 1 _ (by kernel_rfl) rfl rfl (by kernel_rfl) rfl (ex_x rfl (fun w1 h1 => x_nilCheck rfl)) ?_
  refine e_exact 2 _ (by kernel_rfl) rfl rfl (by kernel_rfl) rfl (ex_x rfl (fun w1 h1 => x_fieldAddr rfl Tryz.runUnderlying81 rfl Tryz.sizeOf78 (by decide))) ?_
  refine e_exact 3 _ (by kernel_rfl) rfl rfl (by kernel_rfl) rfl (ex_x rfl (fun w1 h1 => x_load rfl (ld_blk (roll_blk ((S2.yng (hy28.trans h1)).ro 0 rfl)) Tryz.isAgg78 rfl))) ?_
  refine e_exact 4 _ (by kernel_rfl) rfl rfl (by kernel_rfl) rfl (ex_x rfl (fun w1 h1 => x_fieldAddr rfl Tryz.runUnderlying45 rfl Tryz.sizeOf3 (by decide))) ?_
  refine e_exact 5 _ (by kernel_rfl) rfl rfl (by kernel_rfl) rfl (ex_x rfl (fun w1 h1 => x_load rfl (ld_blk ((S2.yng (hy28.trans h1)).blk 1 rfl) Tryz.isAgg3 rfl))) ?_
  refine e_exact 6 _ (by kernel_rfl) rfl rfl (by kernel_rfl) rfl (ex_x rfl (fun w1 h1 => x_lookup2 (roll_pm ((S2.yng (hy28.trans h1)).ro 0 rfl)) keyI Tryz.runUnderlying78 rfl rfl Tryz.zeroValue154 (show (_ : Value) = .agg (encPl p).toArray from by rw [hpl] <;> rfl) (show _ = true from by rw [hpl] <;> rfl))) ?_
  refine e_exact 7 _ (by kernel_rfl) rfl rfl (by kernel_rfl) rfl (ex_x rfl (fun w1 h1 => x_mv rfl)) ?_
  refine e_exact 8 _ (by kernel_rfl) rfl rfl (by kernel_rfl) rfl (ex_x rfl (fun w1 h1 => x_extract rfl rfl)) ?_
  refine e_exact 9 _ (by kernel_rfl) rfl rfl (by kernel_rfl) rfl (ex_x rfl (fun w1 h1 => x_extract rfl rfl)) ?_
  refine e_next [10] (by kernel_rfl) (by kernel_rfl) ⟨⟨_, _, rfl, rfl, ?_⟩, trivial⟩
  refine s_allocY S27 rfl Tryz.zeroValue154 rfl ?_
  intro b32 w29 S30 hl31 hb33
  refine ⟨.of_le hl31, ?_⟩
  have hy34 : Keep (yng w1) w1 w29 := hy28.trans (Keep.of_le hl31)
  refine e_next [11] (by kernel_rfl) (by kernel_rfl) ⟨⟨_, _, rfl, rfl, ?_⟩, trivial⟩
  refine s_stores (vs := [_, _, _, _]) S30 2 rfl rfl rfl rfl (ones_cons rfl (ones_cons rfl (ones_cons rfl (ones_cons rfl ones_nil)))) Tryz.sizeOf154 (by first | exact Nat.le_refl _ | simp) (splice_all rfl) ?_
  intro w35 S36 hk37
  refine ⟨(yng_blk hy28 hb33 hk37), ?_⟩
  have hy38 : Keep (yng w1) w1 w35 := hy34.trans ((yng_blk hy28 hb33 hk37))
  refine e_exact 12 _ (by kernel_rfl) rfl rfl (by kernel_rfl) rfl (ex_x rfl (fun w1 h1 => x_as rfl)) ?_
  refine e_done (by kernel_rfl) ?_
  refine l_nil ?_
  refine r_seq ?_
  refine r_region ?_
  refine l_x rfl (x_mv rfl) ?_
  refine l_callP [] [] [_] rfl rfl Tryz.call155 rfl (c_need _ _) ?_ ?_
  · skip
    rintro _ w39 ⟨hok41, hl41⟩
    have S40 := S36.step hl41
    refine l_nil ?_
    refine r_seq ?_
    obtain ⟨hs, pf, sf, hok, So⟩ := Own.rollOpen (A := [_, _]) ((S40).pick (L' := [_, _, _]) [1, 2, 0] (by decide) rfl)
    refine r_drawR 6 Tryz.mixed (by kernel_rfl) ?_
    refine w_x rfl (fun w1 h1 => x_mv rfl) ?_
    refine w_x rfl (fun w1 h1 => x_nilCheck rfl) ?_
    refine w_x rfl (fun w1 h1 => x_fieldAddr rfl Tryz.runUnderlying81 rfl Tryz.sizeOf78 (by decide)) ?_
    refine w_x rfl (fun w1 h1 => x_load rfl (ld_blk ((So.step h1).blk 2 rfl) Tryz.isAgg78 rfl)) ?_
    refine w_x rfl (fun w1 h1 => x_fieldAddr rfl Tryz.runUnderlying45 rfl Tryz.sizeOf3 (by decide)) ?_
    refine w_x rfl (fun w1 h1 => x_load rfl (ld_blk ((So.step h1).blk 0 rfl) Tryz.isAgg3 rfl)) ?_
    refine w_nil ?_
    intro w42 hl43
    have S44 := So.step hl43
    refine l_delete S44 5 rfl rfl keyI Tryz.runUnderlying78 rfl rfl ?_
    intro w45 S46 hk47
    refine l_nil ?_
    have Ss := Own.rollShut (A := [_, _]) (s := redeemS s a.1.of) S46 (hok.redeem _)
    refine r_region ?_
    refine l_x rfl (x_mv rfl) ?_
    refine l_x rfl (x_fieldAddr rfl Tryz.runUnderlying154 rfl Tryz.sizeOf3 (by decide)) ?_
    refine l_x rfl (x_load rfl (ld_blk (Ss.blk 1 rfl) Tryz.isAgg3 rfl)) ?_
    refine l_x rfl (x_fieldAddr rfl Tryz.runUnderlying154 rfl Tryz.sizeOf3 (by decide)) ?_
    refine l_x rfl (x_load rfl (ld_blk (Ss.blk 1 rfl) Tryz.isAgg3 rfl)) ?_
    refine l_x rfl (x_fieldAddr rfl Tryz.runUnderlying154 rfl Tryz.sizeOf3 (by decide)) ?_
    refine l_x rfl (x_load rfl (ld_blk (Ss.blk 1 rfl) Tryz.isAgg3 rfl)) ?_
    refine l_call [] [] [_, _, _, _] rfl rfl Tryz.call157 rfl (c_move b n (redeemS s a.1.of) p.frm p.to p.parts (hB.po p (plOf_mem hpl).1).1 (hB.po p (plOf_mem hpl).1).2 (hB.redeem _) (by have := hB.pp p (plOf_mem hpl).1; omega) _ (Ss.lend 2 rfl)) ?_
    rintro _ w48 ⟨nn50, hb51⟩
    have S49 := Ss.back 2 rfl hb51
    refine l_nil ?_
    refine p_end (rs := []) [] Tryz.func138 rfl trivial ?_
    exact ⟨nn50, _, do_seize hk hpl, S49.pick (L' := [_]) [2] (by decide) rfl⟩
  rintro _ w52 k ⟨hno54, rfl, hl54⟩
  cases hno54

end Go.Proofs

/-
  Contracts of functions of the program: each by symbolic execution of its text.
-/
namespace Go.Proofs
open Go Go.Vk Go.Vk.Flow

open Go.Vk.Deed

/-- couchant/share.within. -/
theorem c_within (a l h : Int) (w : World) :
    Cl Tryz.prog 23 #[.int .i64 a, .int .i64 l, .int .i64 h] w fun v w' => v = .bool (rng a l h) ∧ Le w w' := by
  refine fn_of_run (args := [_, _, _]) 15 Tryz.func23 rfl rfl rfl fun cs => ?_
  have S := Own.start (X := nob) w
  refine r_seq ?_
  refine r_region ?_
  refine l_x rfl (x_as rfl) ?_
  refine l_nil ?_
  refine r_seq ?_
  refine r_region ?_
  refine l_x rfl (x_mv rfl) ?_
  refine l_x rfl (x_mv rfl) ?_
  refine l_x rfl (x_geq rfl rfl) ?_
  refine l_x rfl (x_mv rfl) ?_
  refine l_splitd (d := 10) rfl (fun hg10 => ?_) (fun hg10 => ?_)
  · skip
    refine l_x rfl (x_mv rfl) ?_
    refine l_x rfl (x_mv rfl) ?_
    refine l_x rfl (x_leq rfl rfl) ?_
    refine l_x rfl (x_pick_t rfl rfl) ?_
    refine l_x rfl (x_as rfl) ?_
    refine l_nil ?_
    refine r_ret (rs := [.tmp 6]) [_] Tryz.func23 rfl ⟨rfl, trivial⟩ ?_
    exact ⟨congrArg Value.bool (by unfold rng; first | (apply decE; omega) | (apply decF; omega)), S.le⟩
  refine l_pass rfl ?_
  refine l_pass rfl ?_
  refine l_pass rfl ?_
  refine l_x rfl (x_pick_f rfl rfl) ?_
  refine l_x rfl (x_as rfl) ?_
  refine l_nil ?_
  refine r_ret (rs := [.tmp 6]) [_] Tryz.func23 rfl ⟨rfl, trivial⟩ ?_
  exact ⟨congrArg Value.bool (by unfold rng; first | (apply decE; omega) | (apply decF; omega)), S.le⟩

/-- couchant/share.Whole$1. -/
theorem c_Whole1 (a b : Int) (w : World) :
    Cl Tryz.prog 29 #[.int .i64 a, .int .i64 b] w fun v w' => v = .int .i64 (cmpI b a) ∧ Le w w' := by
  refine fn_of_run (args := [_, _]) 8 Tryz.func29 rfl rfl rfl fun cs => ?_
  have S := Own.start (X := nob) w
  refine r_seq ?_
  refine r_region ?_
  refine l_x rfl (x_as rfl) ?_
  refine l_nil ?_
  refine r_seq ?_
  refine r_region ?_
  refine l_x rfl (x_mv rfl) ?_
  refine l_x rfl (x_mv rfl) ?_
  refine l_call [] [] [_, _] rfl rfl Tryz.call30 rfl (c_Compare _ _ _) ?_
  rintro _ w1 ⟨rfl, hl3⟩
  have S2 := S.step hl3
  refine l_x rfl (x_as rfl) ?_
  refine l_nil ?_
  refine r_ret (rs := [.tmp 4]) [_] Tryz.func29 rfl ⟨rfl, trivial⟩ ?_
  exact ⟨rfl, S2.le⟩

set_option maxHeartbeats 2000000 in
/-- slices.insertionSortCmpFunc[int]. -/
theorem c_insSort (v0 : Value) (n : Nat) (c : Int → Int) (kf : Nat) (caps : List Value) (hn : 1 ≤ n ∧ n ≤ 1000) (w : World) (he : ∀ args w, (callFunc kf args).run Tryz.prog w = .ok (.enter kf args) w)
    (hf : ∀ x y : Int, (0 ≤ x ∧ x < n) → (0 ≤ y ∧ y < n) → ∀ w1, Keep (vec EI v0 (idxs n)).fp w w1 → Cl Tryz.prog kf ([Value.int .i64 x, Value.int .i64 y] ++ caps).toArray w1 fun v w2 => v = .int .i64 (cmpI (c y) (c x)) ∧ Le w1 w2) (S : Own (vec EI v0 (idxs n)).fp w w [vec EI v0 (idxs n)]) :
    Cl Tryz.prog 113 #[v0, .int .i64 0, .int .i64 n, .func (.func kf) #[] caps.toArray] w fun _ w' => ∃ L, L.Perm (idxs n) ∧ L.Pairwise (Fst c) ∧ Own (vec EI v0 (idxs n)).fp w w' [vec EI v0 L] := by
  refine fn_of_run (args := [_, _, _, _]) 53 Tryz.func113 rfl rfl rfl fun cs => ?_
  refine r_seq ?_
  refine r_region ?_
  refine l_x rfl (x_mv rfl) ?_
  refine l_x rfl (x_add rfl rfl (by omega)) ?_
  refine l_x rfl (x_as rfl) ?_
  refine l_nil ?_
  refine r_block ?_
  refine r_loop (G := Nat × List Int) (fun ⟨i, L⟩ => n - i) (fun ⟨i, L⟩ => [(0, v0), (1, .int .i64 0), (2, .int .i64 n), (3, .func (.func kf) #[] caps.toArray), (8, .int .i64 i)]) (fun ⟨i, L⟩ w' => (InsO c n i L) ∧ Own (vec EI v0 (idxs n)).fp w w' [vec EI v0 L]) (1, idxs n) ⟨rfl, rfl, rfl, rfl, rfl, trivial⟩ ⟨.start hn.1, S⟩ ?_
  rintro ⟨i, L⟩ ρ w1 ⟨hO, S1⟩ IH
  have hle := hO.le
  refine r_seq ?_
  refine r_seq ?_
  refine r_region ?_
  refine l_x rfl (x_mv rfl) ?_
  refine l_x rfl (x_mv rfl) ?_
  refine l_x rfl (x_lss rfl rfl) ?_
  refine l_nil ?_
  refine r_ifd rfl (fun hc14 => ?_) (fun hc14 => ?_)
  · skip
    refine r_skip ?_
    refine r_seq ?_
    refine r_block ?_
    refine r_seq ?_
    refine r_region ?_
    refine l_x rfl (x_mv rfl) ?_
    refine l_x rfl (x_as rfl) ?_
    refine l_nil ?_
    refine r_block ?_
    refine r_loop (G := Nat × List Int) (fun ⟨j, L1⟩ => j) (fun ⟨j, L1⟩ => [(0, v0), (1, .int .i64 0), (2, .int .i64 n), (3, .func (.func kf) #[] caps.toArray), (8, .int .i64 i), (9, .int .i64 j)]) (fun ⟨j, L1⟩ w' => (InsI c n i j L1) ∧ Own (vec EI v0 (idxs n)).fp w w' [vec EI v0 L1]) (i, L) ⟨rfl, rfl, rfl, rfl, rfl, rfl, trivial⟩ ⟨hO.take (by omega), S1⟩ ?_
    rintro ⟨j, L1⟩ ρ w1b ⟨hI, S1b⟩ IHb
    have hln := hI.len
    have hlt := hI.lt
    refine r_seq ?_
    refine r_seq ?_
    refine r_drawR 14 Tryz.mixed (by kernel_rfl) ?_
    refine w_x rfl (fun w1 h1 => x_mv rfl) ?_
    refine w_x rfl (fun w1 h1 => x_mv rfl) ?_
    refine w_x rfl (fun w1 h1 => x_gtr rfl rfl) ?_
    refine w_x rfl (fun w1 h1 => x_mv rfl) ?_
    refine w_splitd (d := 21) rfl (fun hg21 => ?_) (fun hg21 => ?_)
    · skip
      obtain ⟨y, hy, hy0, hy1⟩ := hI.prev (by omega)
      refine w_x rfl (fun w1 h1 => x_mv rfl) ?_
      refine w_x rfl (fun w1 h1 => x_mv rfl) ?_
      refine w_x rfl (fun w1 h1 => x_mv rfl) ?_
      refine w_index EI rfl (vec_rd (S1b.at 0 rfl)) rfl rfl Tryz.runUnderlying23 Tryz.sizeOf3 (by omega) hI.at ?_
      intro b1 o2 hat3 row4
      refine w_x rfl (fun w1 h1 => x_load rfl (ld_cell Tryz.isAgg3 ((row4.le h1) 0 _ rfl))) ?_
      refine w_x rfl (fun w1 h1 => x_mv rfl) ?_
      refine w_x rfl (fun w1 h1 => x_mv rfl) ?_
      refine w_x rfl (fun w1 h1 => x_sub rfl rfl (by omega)) ?_
      refine w_index EI rfl (vec_rd (S1b.at 0 rfl)) rfl rfl Tryz.runUnderlying23 Tryz.sizeOf3 (by omega) (by rw [show ((j : Int) - 1).toNat = j - 1 by omega]; exact hy) ?_
      intro b5 o6 hat7 row8
      refine w_x rfl (fun w1 h1 => x_load rfl (ld_cell Tryz.isAgg3 ((row8.le h1) 0 _ rfl))) ?_
      refine w_nil ?_
      intro w9 hl10
      have S11 := S1b.step hl10
      refine l_call [] caps ([_, _] ++ caps) rfl rfl he rfl (hf (i : Int) y ⟨by omega, by omega⟩ ⟨by omega, by omega⟩ _ S11.keep) ?_
      rintro _ w12 ⟨rfl, hl14⟩
      have S13 := S11.step hl14
      refine l_x rfl (x_lss rfl rfl) ?_
      refine l_x rfl (x_pick_t rfl rfl) ?_
      refine l_nil ?_
      refine r_ifd rfl (fun hc34 => ?_) (fun hc34 => ?_)
      · skip
        refine r_skip ?_
        refine r_seq ?_
        refine r_block ?_
        refine r_drawE 16 (Rsc.fp (vec EI v0 L1)) Tryz.mixed (by kernel_rfl) ?_
        intro w15 hl16
        have S17 := S13.step hl16
        refine e_exact 0 _ (by kernel_rfl) rfl rfl (by kernel_rfl) rfl (ex_x rfl (fun w1 h1 => x_mv rfl)) ?_
        refine e_exact 1 _ (by kernel_rfl) rfl rfl (by kernel_rfl) rfl (ex_x rfl (fun w1 h1 => x_mv rfl)) ?_
        refine e_exact 2 _ (by kernel_rfl) rfl rfl (by kernel_rfl) rfl (ex_x rfl (fun w1 h1 => x_mv rfl)) ?_
        refine e_exact 3 _ (by kernel_rfl) rfl rfl (by kernel_rfl) rfl (ex_x rfl (fun w1 h1 => x_mv rfl)) ?_
        refine e_exact 4 _ (by kernel_rfl) rfl rfl (by kernel_rfl) rfl (ex_x rfl (fun w1 h1 => x_sub rfl rfl (by omega))) ?_
        refine e_exact 5 _ (by kernel_rfl) rfl rfl (by kernel_rfl) rfl (ex_x rfl (fun w1 h1 => x_mv rfl)) ?_
        refine e_exact 6 _ (by kernel_rfl) rfl rfl (by kernel_rfl) rfl (ex_x rfl (fun w1 h1 => x_mv rfl)) ?_
        refine e_exact 7 _ (by kernel_rfl) rfl rfl (by kernel_rfl) rfl (ex_x rfl (fun w1 h1 => x_sub rfl rfl (by omega))) ?_
        refine e_index EI 8 (by kernel_rfl) rfl rfl (by kernel_rfl) rfl rfl (vec_rd (S17.at 0 rfl)) rfl rfl Tryz.runUnderlying23 Tryz.sizeOf3 (by omega) (by rw [show ((j : Int) - 1).toNat = j - 1 by omega]; exact hy) ?_
        intro b18 o19 hat20
        refine e_exact 10 _ (by kernel_rfl) rfl rfl (by kernel_rfl) rfl (ex_x rfl (fun w1 h1 => x_mv rfl)) ?_
        refine e_exact 11 _ (by kernel_rfl) rfl rfl (by kernel_rfl) rfl (ex_x rfl (fun w1 h1 => x_mv rfl)) ?_
        refine e_index EI 12 (by kernel_rfl) rfl rfl (by kernel_rfl) rfl rfl (vec_rd (S17.at 0 rfl)) rfl rfl Tryz.runUnderlying23 Tryz.sizeOf3 (by omega) hI.at ?_
        intro b21 o22 hat23
        refine e_next [9, 13] (by kernel_rfl) (by kernel_rfl) ⟨⟨_, _, rfl, rfl, ?_⟩, ⟨_, _, rfl, rfl, ?_⟩, trivial⟩
        · skip
          refine s_x rfl (x_load rfl (ld_cell Tryz.isAgg3 ((rd_row (vec_rd (S17.at 0 rfl)) hat20 (by rw [show ((j : Int) - 1).toNat = j - 1 by omega]; exact hy)) 0 _ rfl))) ?_
          refine ⟨Keep.refl _ _, ?_⟩
          refine e_next [13] (by kernel_rfl) (by kernel_rfl) ⟨⟨_, _, rfl, rfl, ?_⟩, trivial⟩
          refine s_x rfl (x_load rfl (ld_cell Tryz.isAgg3 ((rd_row (vec_rd (S17.at 0 rfl)) hat23 hI.at) 0 _ rfl))) ?_
          refine ⟨Keep.refl _ _, ?_⟩
          refine e_index EI 14 (by kernel_rfl) rfl rfl (by kernel_rfl) rfl rfl (vec_rd (S17.at 0 rfl)) rfl rfl Tryz.runUnderlying23 Tryz.sizeOf3 (by omega) hI.at ?_
          intro b24 o25 hat26
          refine e_next [15] (by kernel_rfl) (by kernel_rfl) ⟨⟨_, _, rfl, rfl, ?_⟩, trivial⟩
          refine s_storevi (f := 0) S17 0 rfl rfl hat26 rfl rfl Tryz.sizeOf3 hI.at (by decide) rfl ?_
          intro w27 S28 hk29
          refine ⟨hk29, ?_⟩
          refine e_done (by kernel_rfl) ?_
          refine l_index EI rfl (vec_rd (S28.at 0 rfl)) rfl rfl Tryz.runUnderlying23 Tryz.sizeOf3 (by omega) (by rw [show ((j : Int) - 1).toNat = j - 1 by omega, List.getElem?_set_ne (by simp; omega)]; exact hy) ?_
          intro b30 o31 hat32 row33
          refine l_storevi (f := 0) S28 0 rfl rfl hat32 rfl rfl Tryz.sizeOf3 (by rw [show ((j : Int) - 1).toNat = j - 1 by omega, List.getElem?_set_ne (by simp; omega)]; exact hy) (by decide) rfl ?_
          intro w34 S35 hk36
          refine l_nil ?_
          refine r_inBlock ?_
          refine r_region ?_
          refine l_x rfl (x_mv rfl) ?_
          refine l_x rfl (x_sub rfl rfl (by omega)) ?_
          refine l_x rfl (x_as rfl) ?_
          refine l_nil ?_
          exact IHb (j - 1, (L1.set j y).set (j - 1) i) _ _ (by dsimp only; omega) ⟨rfl, rfl, rfl, rfl, rfl, (congrArg (Value.int .i64) (by omega)), trivial⟩ ⟨hI.down (by omega) hy (cmpI_neg.1 hc34), (by have h := S35; rw [show ((j : Int) - 1).toNat = j - 1 by omega] at h; exact h)⟩
        refine s_x rfl (x_load rfl (ld_cell Tryz.isAgg3 ((rd_row (vec_rd (S17.at 0 rfl)) hat23 hI.at) 0 _ rfl))) ?_
        refine ⟨Keep.refl _ _, ?_⟩
        refine e_next [9] (by kernel_rfl) (by kernel_rfl) ⟨⟨_, _, rfl, rfl, ?_⟩, trivial⟩
        refine s_x rfl (x_load rfl (ld_cell Tryz.isAgg3 ((rd_row (vec_rd (S17.at 0 rfl)) hat20 (by rw [show ((j : Int) - 1).toNat = j - 1 by omega]; exact hy)) 0 _ rfl))) ?_
        refine ⟨Keep.refl _ _, ?_⟩
        refine e_index EI 14 (by kernel_rfl) rfl rfl (by kernel_rfl) rfl rfl (vec_rd (S17.at 0 rfl)) rfl rfl Tryz.runUnderlying23 Tryz.sizeOf3 (by omega) hI.at ?_
        intro b37 o38 hat39
        refine e_next [15] (by kernel_rfl) (by kernel_rfl) ⟨⟨_, _, rfl, rfl, ?_⟩, trivial⟩
        refine s_storevi (f := 0) S17 0 rfl rfl hat39 rfl rfl Tryz.sizeOf3 hI.at (by decide) rfl ?_
        intro w40 S41 hk42
        refine ⟨hk42, ?_⟩
        refine e_done (by kernel_rfl) ?_
        refine l_index EI rfl (vec_rd (S41.at 0 rfl)) rfl rfl Tryz.runUnderlying23 Tryz.sizeOf3 (by omega) (by rw [show ((j : Int) - 1).toNat = j - 1 by omega, List.getElem?_set_ne (by simp; omega)]; exact hy) ?_
        intro b43 o44 hat45 row46
        refine l_storevi (f := 0) S41 0 rfl rfl hat45 rfl rfl Tryz.sizeOf3 (by rw [show ((j : Int) - 1).toNat = j - 1 by omega, List.getElem?_set_ne (by simp; omega)]; exact hy) (by decide) rfl ?_
        intro w47 S48 hk49
        refine l_nil ?_
        refine r_inBlock ?_
        refine r_region ?_
        refine l_x rfl (x_mv rfl) ?_
        refine l_x rfl (x_sub rfl rfl (by omega)) ?_
        refine l_x rfl (x_as rfl) ?_
        refine l_nil ?_
        exact IHb (j - 1, (L1.set j y).set (j - 1) i) _ _ (by dsimp only; omega) ⟨rfl, rfl, rfl, rfl, rfl, (congrArg (Value.int .i64) (by omega)), trivial⟩ ⟨hI.down (by omega) hy (cmpI_neg.1 hc34), (by have h := S48; rw [show ((j : Int) - 1).toNat = j - 1 by omega] at h; exact h)⟩
      have hst : 0 < j → ∀ y, L1[j - 1]? = some y → ¬ c y < c i := fun _ z hz => by
        rw [hy] at hz; cases hz
        exact fun h => hc34 (cmpI_neg.2 h)
      refine r_exit rfl ?_
      refine r_inBlock ?_
      refine r_region ?_
      refine l_x rfl (x_mv rfl) ?_
      refine l_x rfl (x_add rfl rfl (by omega)) ?_
      refine l_x rfl (x_as rfl) ?_
      refine l_nil ?_
      exact IH (i + 1, L1) _ _ (by dsimp only; omega) ⟨rfl, rfl, rfl, rfl, rfl, trivial⟩ ⟨hI.stop hst, S13⟩
    have hst : 0 < j → ∀ y, L1[j - 1]? = some y → ¬ c y < c i := fun h => absurd h (by omega)
    refine w_pass rfl ?_
    refine w_pass rfl ?_
    refine w_pass rfl ?_
    refine w_pass rfl ?_
    refine w_pass rfl ?_
    refine w_pass rfl ?_
    refine w_pass rfl ?_
    refine w_pass rfl ?_
    refine w_pass rfl ?_
    refine w_pass rfl ?_
    refine w_nil ?_
    intro w50 hl51
    have S52 := S1b.step hl51
    refine l_pass rfl ?_
    refine l_pass rfl ?_
    refine l_x rfl (x_pick_f rfl rfl) ?_
    refine l_nil ?_
    refine r_false rfl ?_
    refine r_exit rfl ?_
    refine r_inBlock ?_
    refine r_region ?_
    refine l_x rfl (x_mv rfl) ?_
    refine l_x rfl (x_add rfl rfl (by omega)) ?_
    refine l_x rfl (x_as rfl) ?_
    refine l_nil ?_
    exact IH (i + 1, L1) _ _ (by dsimp only; omega) ⟨rfl, rfl, rfl, rfl, rfl, trivial⟩ ⟨hI.stop hst, S52⟩
  obtain rfl : i = n := by omega
  obtain ⟨hp, hs⟩ := hO.done
  refine r_exit rfl ?_
  refine r_end (rs := []) [] Tryz.func113 rfl trivial ?_
  exact ⟨L, hp, hs, S1⟩

/-- slices.stableCmpFunc[int]. -/
theorem c_stable (v0 : Value) (n : Nat) (c : Int → Int) (kf : Nat) (caps : List Value) (hn : 1 ≤ n ∧ n ≤ 19) (w : World) (he : ∀ args w, (callFunc kf args).run Tryz.prog w = .ok (.enter kf args) w)
    (hf : ∀ x y : Int, (0 ≤ x ∧ x < n) → (0 ≤ y ∧ y < n) → ∀ w1, Keep (vec EI v0 (idxs n)).fp w w1 → Cl Tryz.prog kf ([Value.int .i64 x, Value.int .i64 y] ++ caps).toArray w1 fun v w2 => v = .int .i64 (cmpI (c y) (c x)) ∧ Le w1 w2) (S : Own (vec EI v0 (idxs n)).fp w w [vec EI v0 (idxs n)]) :
    Cl Tryz.prog 92 #[v0, .int .i64 n, .func (.func kf) #[] caps.toArray] w fun _ w' => ∃ L, L.Perm (idxs n) ∧ L.Pairwise (Fst c) ∧ Own (vec EI v0 (idxs n)).fp w w' [vec EI v0 L] := by
  refine fn_of_run (args := [_, _, _]) 63 Tryz.func92 rfl rfl rfl fun cs => ?_
  refine r_seq ?_
  refine r_region ?_
  refine l_x rfl (x_as rfl) ?_
  refine l_nil ?_
  refine r_seq ?_
  refine r_region ?_
  refine l_x rfl (x_mv rfl) ?_
  refine l_x rfl (x_as rfl) ?_
  refine l_x rfl (x_as rfl) ?_
  refine l_nil ?_
  refine r_seq ?_
  refine r_block ?_
  refine r_loop0 ?_
  refine r_seq ?_
  refine r_seq ?_
  refine r_region ?_
  refine l_x rfl (x_mv rfl) ?_
  refine l_x rfl (x_mv rfl) ?_
  refine l_x rfl (x_leq rfl rfl) ?_
  refine l_nil ?_
  refine r_ifd rfl (fun hc13 => ?_) (fun hc13 => ?_)
  · exact absurd hc13 (by omega)
  refine r_exit rfl ?_
  refine r_seq ?_
  refine r_region ?_
  refine l_x rfl (x_mv rfl) ?_
  refine l_x rfl (x_mv rfl) ?_
  refine l_x rfl (x_mv rfl) ?_
  refine l_x rfl (x_mv rfl) ?_
  refine l_call [] [] [_, _, _, _] rfl rfl Tryz.call113 rfl (c_insSort v0 n c kf caps ⟨hn.1, by omega⟩ _ he (fun x y hx hy w1 h1 => hf x y hx hy w1 (S.keep.trans h1)) (S.lend 0 rfl)) ?_
  rintro _ w1 ⟨L, hp, hs, h2⟩
  have S3 := S.back 0 rfl h2
  refine l_nil ?_
  refine r_block ?_
  refine r_loop0 ?_
  refine r_seq ?_
  refine r_seq ?_
  refine r_region ?_
  refine l_x rfl (x_mv rfl) ?_
  refine l_x rfl (x_mv rfl) ?_
  refine l_x rfl (x_lss rfl rfl) ?_
  refine l_nil ?_
  refine r_ifd rfl (fun hc30 => ?_) (fun hc30 => ?_)
  · exact absurd hc30 (by omega)
  refine r_exit rfl ?_
  refine r_end (rs := []) [] Tryz.func92 rfl trivial ?_
  exact ⟨L, hp, hs, S3⟩

/-- slices.SortStableFunc[[]int,int]. -/
theorem c_SortStable (v0 : Value) (n : Nat) (c : Int → Int) (kf : Nat) (caps : List Value) (hn : 1 ≤ n ∧ n ≤ 19) (w : World) (he : ∀ args w, (callFunc kf args).run Tryz.prog w = .ok (.enter kf args) w)
    (hf : ∀ x y : Int, (0 ≤ x ∧ x < n) → (0 ≤ y ∧ y < n) → ∀ w1, Keep (vec EI v0 (idxs n)).fp w w1 → Cl Tryz.prog kf ([Value.int .i64 x, Value.int .i64 y] ++ caps).toArray w1 fun v w2 => v = .int .i64 (cmpI (c y) (c x)) ∧ Le w1 w2) (S : Own (vec EI v0 (idxs n)).fp w w [vec EI v0 (idxs n)]) :
    Cl Tryz.prog 59 #[v0, .func (.func kf) #[] caps.toArray] w fun _ w' => ∃ L, L.Perm (idxs n) ∧ L.Pairwise (Fst c) ∧ Own (vec EI v0 (idxs n)).fp w w' [vec EI v0 L] := by
  have hil := idxs_len (n := n)
  refine fn_of_run (args := [_, _]) 9 Tryz.func59 rfl rfl rfl fun cs => ?_
  refine r_region ?_
  refine l_x rfl (x_mv rfl) ?_
  refine l_x rfl (x_mv rfl) ?_
  refine l_x rfl (x_len (vec_rd (S.at 0 rfl)) rfl Tryz.runUnderlying23) ?_
  refine l_slot 6 (.int .i64 (n : Int)) (congrArg (fun q : Nat => Value.int .i64 (q : Int)) idxs_len) ?_
  refine l_x rfl (x_mv rfl) ?_
  refine l_call [] [] [_, _, _] rfl rfl Tryz.call92 rfl (c_stable v0 n c kf caps hn _ he (fun x y hx hy w1 h1 => hf x y hx hy w1 (S.keep.trans h1)) (S.lend 0 rfl)) ?_
  rintro _ w1 ⟨L, hp, hs, h2⟩
  have S3 := S.back 0 rfl h2
  refine l_nil ?_
  refine r_end (rs := []) [] Tryz.func59 rfl trivial ?_
  exact ⟨L, hp, hs, S3⟩

/-- couchant/share.sorted[int]$1. -/
theorem c_sorted1 (cuts : List Int) (vc : Value) (bf bs : Nat) (i k x y : Int) (hi : 0 ≤ i) (hk : 0 ≤ k) (hx : cuts[i.toNat]? = some x) (hy : cuts[k.toNat]? = some y) (w : World) (hF : Blk w bf [.func (.func 29) #[] #[]] 70) (hS : Blk w bs [vc] 23) (hC : Rd EI w vc cuts) :
    Cl Tryz.prog 60 #[.int .i64 i, .int .i64 k, .pointer (some ⟨bf, 0, none⟩), .pointer (some ⟨bs, 0, none⟩)] w fun v w' => v = .int .i64 (cmpI y x) ∧ Le w w' := by
  refine fn_of_run (args := [_, _, _, _]) 17 Tryz.func60 rfl rfl rfl fun cs => ?_
  have S := Own.start (X := nob) w
  refine r_seq ?_
  refine r_region ?_
  refine l_x rfl (x_as rfl) ?_
  refine l_nil ?_
  refine r_seq ?_
  refine r_drawR 9 Tryz.mixed (by kernel_rfl) ?_
  refine w_x rfl (fun w1 h1 => x_load rfl (ld_blk (hF.keep (S.step h1).le id) Tryz.isAgg70 rfl)) ?_
  refine w_x rfl (fun w1 h1 => x_load rfl (ld_blk (hS.keep (S.step h1).le id) Tryz.isAgg23 rfl)) ?_
  refine w_x rfl (fun w1 h1 => x_mv rfl) ?_
  refine w_index EI rfl (hC.le S.le) rfl rfl Tryz.runUnderlying23 Tryz.sizeOf3 (by omega) hx ?_
  intro b1 o2 hat3 row4
  refine w_x rfl (fun w1 h1 => x_load rfl (ld_cell Tryz.isAgg3 ((row4.le h1) 0 _ rfl))) ?_
  refine w_x rfl (fun w1 h1 => x_load rfl (ld_blk (hS.keep (S.step h1).le id) Tryz.isAgg23 rfl)) ?_
  refine w_x rfl (fun w1 h1 => x_mv rfl) ?_
  refine w_index EI rfl (hC.le S.le) rfl rfl Tryz.runUnderlying23 Tryz.sizeOf3 (by omega) hy ?_
  intro b5 o6 hat7 row8
  refine w_x rfl (fun w1 h1 => x_load rfl (ld_cell Tryz.isAgg3 ((row8.le h1) 0 _ rfl))) ?_
  refine w_nil ?_
  intro w9 hl10
  have S11 := S.step hl10
  refine l_call [] [] [_, _] rfl rfl Tryz.call29 rfl (c_Whole1 _ _ _) ?_
  rintro _ w12 ⟨rfl, hl14⟩
  have S13 := S11.step hl14
  refine l_x rfl (x_as rfl) ?_
  refine l_nil ?_
  refine r_ret (rs := [.tmp 6]) [_] Tryz.func60 rfl ⟨rfl, trivial⟩ ?_
  exact ⟨rfl, S13.le⟩

set_option maxHeartbeats 2000000 in
/-- couchant/share.sorted[int]. -/
theorem c_shsorted (cuts : List Int) (vc : Value) (hn : 1 ≤ cuts.length ∧ cuts.length ≤ 19) (w : World) (hC : Rd EI w vc cuts) :
    Cl Tryz.prog 28 #[vc, .func (.func 29) #[] #[]] w fun v w' => ∃ L, L.Perm (idxs cuts.length) ∧ L.Pairwise (Fst fun x => cuts.getD x.toNat 0) ∧ New w w' (vec EI v L) ∧ Le w w' := by
  refine fn_of_run (args := [_, _]) 21 Tryz.func28 rfl rfl rfl fun cs => ?_
  have S := Own.start (X := nob) w
  refine r_seq ?_
  refine r_region ?_
  refine l_box S rfl (Rd.cells (hC.le S.le)) ?_
  intro b4 w1 S2 hl3
  refine l_box S2 rfl rfl ?_
  intro b8 w5 S6 hl7
  refine l_x rfl (x_as rfl) ?_
  refine l_nil ?_
  refine r_seq ?_
  refine r_region ?_
  refine l_x rfl (x_as rfl) ?_
  have S9 := S6.nilvec (E := EI)
  refine l_nil ?_
  refine r_seq ?_
  refine r_seq ?_
  refine r_region ?_
  refine l_x rfl (x_load rfl (ld_blk (S9.blk 0 rfl) Tryz.isAgg23 rfl)) ?_
  refine l_x rfl (x_len (hC.le S9.le) rfl Tryz.runUnderlying23) ?_
  refine l_x rfl (x_mv rfl) ?_
  refine l_nil ?_
  refine r_block ?_
  refine r_loop (G := Nat × Value) (fun ⟨i, vo⟩ => cuts.length - i) (fun ⟨i, vo⟩ => [(2, .pointer (some ⟨b4, 0, none⟩)), (3, .pointer (some ⟨b8, 0, none⟩)), (5, vo), (8, .int .i64 cuts.length), (9, .int .i64 i)]) (fun ⟨i, vo⟩ w' => (i ≤ cuts.length) ∧ Own nob w w' [blk b4 [vc] 23, blk b8 [.func (.func 29) #[] #[]] 70, vec EI vo (idxs i)]) (0, .slice none 0 0) ⟨rfl, rfl, rfl, rfl, rfl, trivial⟩ ⟨Nat.zero_le _, (S9.take 3)⟩ ?_
  rintro ⟨i, vo⟩ ρ w1 ⟨hi, S1⟩ IH
  refine r_seq ?_
  refine r_region ?_
  refine l_x rfl (x_lss rfl rfl) ?_
  refine l_nil ?_
  refine r_seq ?_
  refine r_ifd rfl (fun hc10 => ?_) (fun hc10 => ?_)
  · skip
    refine r_skip ?_
    refine r_seq ?_
    refine r_block ?_
    refine r_seq ?_
    refine r_region ?_
    refine l_x rfl (x_mv rfl) ?_
    refine l_x rfl (x_as rfl) ?_
    refine l_nil ?_
    refine r_region ?_
    refine l_x rfl (x_mv rfl) ?_
    refine l_x rfl (x_mv rfl) ?_
    refine l_buildSlice EI [(i : Int)] S1 rfl Tryz.runUnderlying23 Tryz.sizeOf3 Tryz.zeroValue3 rfl ⟨rfl, rfl, trivial⟩ (Nat.le_of_ble_eq_true rfl) ?_
    intro v13 w10 S11 hl12
    refine l_append EI S11 2 rfl rfl rfl rfl (vec_rd (S11.at 3 rfl)) Tryz.underlying23 info3 rfl rfl rfl (by unfold maxLen; rw [idxs_len, List.length_singleton]; omega) (by rw [idxs_len, List.length_singleton]; show _ * 8 ≤ _; omega) ?_
    intro v17 w14 S15 hk16 hv18
    refine l_x rfl (x_as rfl) ?_
    refine l_nil ?_
    refine r_inBlock ?_
    refine r_region ?_
    refine l_x rfl (x_add rfl rfl (by omega)) ?_
    refine l_x rfl (x_mv rfl) ?_
    refine l_nil ?_
    exact IH (i + 1, v17) _ _ (by dsimp only; omega) ⟨rfl, rfl, rfl, rfl, rfl, trivial⟩ ⟨by omega, (by rw [idxs_snoc]; exact S15.take 3)⟩
  obtain rfl : i = cuts.length := by omega
  refine r_exit rfl ?_
  refine r_seq ?_
  refine r_region ?_
  refine l_x rfl (x_mv rfl) ?_
  refine l_x rfl (x_func rfl rfl) ?_
  refine l_call [] [] [_, _] rfl rfl Tryz.call59 rfl (c_SortStable _ cuts.length (fun x => cuts.getD x.toNat 0) 60 [.pointer (some ⟨b8, 0, none⟩), .pointer (some ⟨b4, 0, none⟩)] hn _ Tryz.call60 (fun x y hx hy w1 h1 => by
  obtain ⟨x', hx'⟩ : ∃ x', cuts[x.toNat]? = some x' := ⟨_, List.getElem?_eq_getElem (by omega)⟩
  obtain ⟨y', hy'⟩ : ∃ y', cuts[y.toNat]? = some y' := ⟨_, List.getElem?_eq_getElem (by omega)⟩
  have Su := S1.under 2 rfl h1
  have h9 := c_sorted1 cuts vc _ _ x y x' y' hx.1 hy.1 hx' hy' w1 (Su.blk 1 rfl) (Su.blk 0 rfl) (hC.le Su.le)
  simp only [List.getD_eq_getElem?_getD, hx', hy', Option.getD_some]
  exact h9) (S1.lend 2 rfl)) ?_
  rintro _ w19 ⟨L, hp, hs, h20⟩
  have S21 := S1.back 2 rfl h20
  refine l_nil ?_
  refine r_seq ?_
  refine r_region ?_
  refine l_x rfl (x_mv rfl) ?_
  refine l_x rfl (x_as rfl) ?_
  refine l_nil ?_
  refine r_ret (rs := [.tmp 4]) [_] Tryz.func28 rfl ⟨rfl, trivial⟩ ?_
  exact ⟨L, hp, hs, S21.new 2 rfl, S21.le⟩

set_option maxHeartbeats 1000000 in
/-- couchant/share.parted. -/
theorem c_parted (l : List Int) (vl : Value) (fine : Bool) (w : World) (hL : Rd EI w vl l) :
    Cl Tryz.prog 27 #[vl, .bool fine] w fun v w' => v = .tuple #[.int .i64 (if prtE l fine = 0 then sumI l else 0), .int .i64 (prtE l fine)] ∧ Le w w' := by
  refine fn_of_run (args := [_, _]) 32 Tryz.func27 rfl rfl rfl fun cs => ?_
  have S := Own.start (X := nob) w
  refine r_seq ?_
  refine r_region ?_
  refine l_x rfl (x_as rfl) ?_
  refine l_x rfl (x_as rfl) ?_
  refine l_nil ?_
  refine r_seq ?_
  refine r_seq ?_
  refine r_region ?_
  refine l_x rfl (x_mv rfl) ?_
  refine l_x rfl (x_len (hL.le S.le) rfl Tryz.runUnderlying23) ?_
  refine l_x rfl (x_gtr rfl rfl) ?_
  refine l_nil ?_
  refine r_ifd rfl (fun hc11 => ?_) (fun hc11 => ?_)
  · skip
    refine r_seq ?_
    refine r_region ?_
    refine l_x rfl (x_as rfl) ?_
    refine l_x rfl (x_as rfl) ?_
    refine l_nil ?_
    refine r_ret (rs := [.tmp 4, .tmp 5]) [_, _] Tryz.func27 rfl ⟨rfl, rfl, trivial⟩ ?_
    exact ⟨by rw [prt_len (by omega)]; rfl, S.le⟩
  refine r_skip ?_
  refine r_seq ?_
  refine r_region ?_
  refine l_x rfl (x_as rfl) ?_
  refine l_nil ?_
  refine r_seq ?_
  refine r_seq ?_
  refine r_region ?_
  refine l_x rfl (x_mv rfl) ?_
  refine l_x rfl (x_len (hL.le S.le) rfl Tryz.runUnderlying23) ?_
  refine l_x rfl (x_mv rfl) ?_
  refine l_nil ?_
  refine r_block ?_
  refine r_loop (G := Nat) (fun i => l.length - i) (fun i => [(1, .bool fine), (6, .int .i64 (sumI (l.take i))), (12, vl), (13, .int .i64 l.length), (14, .int .i64 i)]) (fun i w' => (i ≤ l.length) ∧ (∀ x ∈ l.take i, rng x 0 1000 = true) ∧ Own nob w w' []) 0 ⟨rfl, rfl, rfl, rfl, rfl, trivial⟩ ⟨Nat.zero_le _, by simp, S⟩ ?_
  rintro i ρ w1 ⟨hi, hok, S1⟩ IH
  have hbd := sumI_bd_take hok
  refine r_seq ?_
  refine r_region ?_
  refine l_x rfl (x_lss rfl rfl) ?_
  refine l_nil ?_
  refine r_seq ?_
  refine r_ifd rfl (fun hc15 => ?_) (fun hc15 => ?_)
  · skip
    obtain ⟨a, ha⟩ : ∃ a, l[i]? = some a := ⟨_, List.getElem?_eq_getElem (by omega)⟩
    refine r_skip ?_
    refine r_seq ?_
    refine r_block ?_
    refine r_seq ?_
    refine r_region ?_
    refine l_index EI rfl (hL.le S1.le) rfl rfl Tryz.runUnderlying23 Tryz.sizeOf3 (by omega) (by first | assumption | exact List.getElem?_eq_getElem (by omega)) ?_
    intro b1 o2 hat3 row4
    refine l_x rfl (x_load rfl (ld_cell Tryz.isAgg3 (row4 0 _ rfl))) ?_
    refine l_x rfl (x_as rfl) ?_
    refine l_nil ?_
    refine r_seq ?_
    refine r_seq ?_
    refine r_region ?_
    refine l_x rfl (x_mv rfl) ?_
    refine l_call [] [] [_, _, _] rfl rfl Tryz.call23 rfl (c_within _ _ _ _) ?_
    rintro _ w5 ⟨rfl, hl7⟩
    have S6 := S1.step hl7
    refine l_x rfl (x_not rfl) ?_
    refine l_nil ?_
    refine r_if rfl (fun hc20 => ?_) (fun hc20 => ?_)
    · skip
      refine r_seq ?_
      refine r_region ?_
      refine l_x rfl (x_as rfl) ?_
      refine l_x rfl (x_as rfl) ?_
      refine l_nil ?_
      refine r_ret (rs := [.tmp 4, .tmp 5]) [_, _] Tryz.func27 rfl ⟨rfl, rfl, trivial⟩ ?_
      exact ⟨by rw [prt_bad (by omega) ha (by simpa using hc20)]; rfl, S6.le⟩
    have hab := rng_iff.1 (show rng a 0 1000 = true by simpa using hc20)
    refine r_skip ?_
    refine r_region ?_
    refine l_x rfl (x_mv rfl) ?_
    refine l_x rfl (x_mv rfl) ?_
    refine l_x rfl (x_add rfl rfl (by omega)) ?_
    refine l_x rfl (x_as rfl) ?_
    refine l_nil ?_
    refine r_inBlock ?_
    refine r_region ?_
    refine l_x rfl (x_add rfl rfl (by omega)) ?_
    refine l_x rfl (x_mv rfl) ?_
    refine l_nil ?_
    exact IH (i + 1) _ _ (by omega) ⟨rfl, (congrArg (Value.int .i64) (sumI_take ha).symm), rfl, rfl, rfl, trivial⟩ ⟨by omega, all_step2 hok ha (by simpa using hc20), S6⟩
  obtain rfl : i = l.length := by omega
  rw [List.take_length] at *
  refine r_exit rfl ?_
  refine r_seq ?_
  refine r_block ?_
  refine r_seq ?_
  refine r_region ?_
  refine l_x rfl (x_mv rfl) ?_
  refine l_x rfl (x_not rfl) ?_
  refine l_x rfl (x_as rfl) ?_
  refine l_nil ?_
  refine r_if rfl (fun hc25 => ?_) (fun hc25 => ?_)
  · skip
    refine r_seq ?_
    refine r_region ?_
    refine l_x rfl (x_as rfl) ?_
    refine l_x rfl (x_as rfl) ?_
    refine l_nil ?_
    refine r_ret (rs := [.tmp 4, .tmp 5]) [_, _] Tryz.func27 rfl ⟨rfl, rfl, trivial⟩ ?_
    have he : prtE l fine = 1 := by rw [prt_go (by omega) hok, if_pos (by simpa using hc25)]
    exact ⟨by rw [he]; rfl, S1.le⟩
  refine r_seq ?_
  refine r_region ?_
  refine l_x rfl (x_mv rfl) ?_
  refine l_x rfl (x_eql rfl rfl) ?_
  refine l_x rfl (x_as rfl) ?_
  refine l_nil ?_
  refine r_ifd rfl (fun hc28 => ?_) (fun hc28 => ?_)
  · skip
    refine r_seq ?_
    refine r_region ?_
    refine l_x rfl (x_as rfl) ?_
    refine l_x rfl (x_as rfl) ?_
    refine l_nil ?_
    refine r_ret (rs := [.tmp 4, .tmp 5]) [_, _] Tryz.func27 rfl ⟨rfl, rfl, trivial⟩ ?_
    have he : prtE l fine = 11 := by rw [prt_go (by omega) hok, if_neg (by simp_all), if_pos hc28]
    exact ⟨by rw [he]; rfl, S1.le⟩
  refine r_skip ?_
  refine r_inBlock ?_
  refine r_seq ?_
  refine r_region ?_
  refine l_x rfl (x_mv rfl) ?_
  refine l_x rfl (x_as rfl) ?_
  refine l_x rfl (x_as rfl) ?_
  refine l_nil ?_
  refine r_ret (rs := [.tmp 4, .tmp 5]) [_, _] Tryz.func27 rfl ⟨rfl, rfl, trivial⟩ ?_
  have he : prtE l fine = 0 := by rw [prt_go (by omega) hok, if_neg (by simp_all), if_neg hc28]
  exact ⟨by rw [he]; rfl, S1.le⟩

set_option maxHeartbeats 4000000 in
/-- couchant/share.Whole. -/
theorem c_Whole (t : Int) (l : List Int) (vl : Value) (hn : l.length ≤ 19) (w : World) (hL : Rd EI w vl l) :
    Cl Tryz.prog 10 #[.int .i64 t, vl] w fun v w' => ∃ s r e, v = .tuple #[s, .int .i64 e] ∧ e = prtE l (rng t 0 1000000000) ∧ (e = 0 → r = wholeS t l) ∧ New w w' (vec EI s r) ∧ Le w w' := by
  refine fn_of_run (args := [_, _]) 79 Tryz.func10 rfl rfl rfl fun cs => ?_
  have S := Own.start (X := nob) w
  refine r_seq ?_
  refine r_region ?_
  refine l_x rfl (x_as rfl) ?_
  refine l_x rfl (x_as rfl) ?_
  refine l_nil ?_
  refine r_seq ?_
  refine r_region ?_
  refine l_x rfl (x_mv rfl) ?_
  refine l_x rfl (x_mv rfl) ?_
  refine l_call [] [] [_, _, _] rfl rfl Tryz.call23 rfl (c_within _ _ _ _) ?_
  rintro _ w1 ⟨rfl, hl3⟩
  have S2 := S.step hl3
  refine l_call [] [] [_, _] rfl rfl Tryz.call27 rfl (c_parted l _ _ _ (hL.le S2.le)) ?_
  rintro _ w4 ⟨rfl, hl6⟩
  have S5 := S2.step hl6
  refine l_x rfl (x_mv rfl) ?_
  refine l_x rfl (x_extract rfl rfl) ?_
  refine l_x rfl (x_extract rfl rfl) ?_
  refine l_x rfl (x_as rfl) ?_
  refine l_x rfl (x_as rfl) ?_
  refine l_nil ?_
  refine r_seq ?_
  refine r_seq ?_
  refine r_region ?_
  refine l_x rfl (x_mv rfl) ?_
  refine l_x rfl (x_neq rfl rfl) ?_
  refine l_nil ?_
  refine r_ifd rfl (fun hc23 => ?_) (fun hc23 => ?_)
  · skip
    refine r_seq ?_
    refine r_region ?_
    refine l_x rfl (x_mv rfl) ?_
    refine l_x rfl (x_as rfl) ?_
    refine l_x rfl (x_as rfl) ?_
    refine l_nil ?_
    refine r_ret (rs := [.tmp 4, .tmp 5]) [_, _] Tryz.func10 rfl ⟨rfl, rfl, trivial⟩ ?_
    exact ⟨_, [], _, rfl, rfl, fun h => absurd h hc23, New.nilvec .., S5.le⟩
  have h0 : prtE l (rng t 0 1000000000) = 0 := Decidable.not_not.1 hc23
  obtain ⟨hl40, hl0, hft, hsp, hsb⟩ := prt_ok h0
  have htb := rng_iff.1 hft
  have hbl : (baseS t l).length = l.length := by simp [baseS]
  have hcl : (cutS t l).length = l.length := by simp [cutS]
  have hlf := left_bd (total := t) (fun x hx => (hl0 x hx).1) hsp
  refine r_skip ?_
  refine r_seq ?_
  refine r_drawE 8 nob Tryz.mixed (by kernel_rfl) ?_
  intro w7 hl8
  have S9 := S5.step hl8
  refine e_exact 0 _ (by kernel_rfl) rfl rfl (by kernel_rfl) rfl (ex_x rfl (fun w1 h1 => x_mv rfl)) ?_
  refine e_exact 1 _ (by kernel_rfl) rfl rfl (by kernel_rfl) rfl (ex_x rfl (fun w1 h1 => x_len (hL.le (S9.step h1).le) rfl Tryz.runUnderlying23)) ?_
  refine e_exact 3 _ (by kernel_rfl) rfl rfl (by kernel_rfl) rfl (ex_x rfl (fun w1 h1 => x_mv rfl)) ?_
  refine e_exact 4 _ (by kernel_rfl) rfl rfl (by kernel_rfl) rfl (ex_x rfl (fun w1 h1 => x_len (hL.le (S9.step h1).le) rfl Tryz.runUnderlying23)) ?_
  refine e_next [2, 5] (by kernel_rfl) (by kernel_rfl) ⟨⟨_, _, rfl, rfl, ?_⟩, ⟨_, _, rfl, rfl, ?_⟩, trivial⟩
  · skip
    refine s_make EI 0 S9 rfl Tryz.runUnderlying23 Tryz.sizeOf3 Tryz.typeInfo3 Tryz.zeroValue3 rfl rfl rfl rfl (Nat.le_refl _) (by unfold maxLen; omega) (by show _ * 8 ≤ _; omega) ?_
    intro v13 w10 hv14 S11 hl12
    refine ⟨.of_le hl12, ?_⟩
    refine e_exact 6 _ (by kernel_rfl) rfl rfl (by kernel_rfl) rfl (ex_x rfl (fun w1 h1 => x_as rfl)) ?_
    refine e_next [5] (by kernel_rfl) (by kernel_rfl) ⟨⟨_, _, rfl, rfl, ?_⟩, trivial⟩
    refine s_make EI 0 S11 rfl Tryz.runUnderlying23 Tryz.sizeOf3 Tryz.typeInfo3 Tryz.zeroValue3 rfl rfl rfl rfl (Nat.le_refl _) (by unfold maxLen; omega) (by show _ * 8 ≤ _; omega) ?_
    intro v18 w15 hv19 S16 hl17
    refine ⟨.of_le hl17, ?_⟩
    refine e_exact 7 _ (by kernel_rfl) rfl rfl (by kernel_rfl) rfl (ex_x rfl (fun w1 h1 => x_as rfl)) ?_
    refine e_done (by kernel_rfl) ?_
    refine l_nil ?_
    refine r_seq ?_
    refine r_region ?_
    refine l_x rfl (x_mv rfl) ?_
    refine l_x rfl (x_as rfl) ?_
    refine l_nil ?_
    refine r_seq ?_
    refine r_seq ?_
    refine r_region ?_
    refine l_x rfl (x_mv rfl) ?_
    refine l_x rfl (x_len (hL.le S16.le) rfl Tryz.runUnderlying23) ?_
    refine l_x rfl (x_mv rfl) ?_
    refine l_nil ?_
    refine r_block ?_
    refine r_loop (G := Nat) (fun i => l.length - i) (fun i => [(0, .int .i64 t), (6, .int .i64 (sumI l)), (8, v13), (9, v18), (10, .int .i64 (t - sumI ((baseS t l).take i))), (32, vl), (33, .int .i64 l.length), (34, .int .i64 i)]) (fun i w' => (i ≤ l.length) ∧ Own nob w w' [vec EI v13 (pre (baseS t l) 0 i), vec EI v18 (pre (cutS t l) 0 i)]) 0 ⟨rfl, (congrArg (Value.int .i64) (if_pos h0)), rfl, rfl, (congrArg (Value.int .i64) (by rw [List.take_zero, sumI_nil, Int.sub_zero])), rfl, rfl, rfl, trivial⟩ ⟨Nat.zero_le _, (by rw [pre_zero, pre_zero, hbl, hcl]; exact S16.pick [0, 1] (by decide) rfl)⟩ ?_
    rintro i ρ w1 ⟨hi, S1⟩ IH
    refine r_seq ?_
    refine r_region ?_
    refine l_x rfl (x_lss rfl rfl) ?_
    refine l_nil ?_
    refine r_seq ?_
    refine r_ifd rfl (fun hc35 => ?_) (fun hc35 => ?_)
    · skip
      obtain ⟨a, ha⟩ : ∃ a, l[i]? = some a := ⟨_, List.getElem?_eq_getElem (by omega)⟩
      have hab := hl0 a (List.mem_of_getElem? ha)
      have hba : (baseS t l)[i]? = some (t * a / sumI l) := by simp [baseS, ha]
      have hca : (cutS t l)[i]? = some (t * a % sumI l) := by simp [cutS, ha]
      have hm0 := mul_bd htb hab
      have hdv := div_bd (s := sumI l) hm0 hsp
      have hlb := base_bd htb hl0 hsp i
      refine r_skip ?_
      refine r_seq ?_
      refine r_block ?_
      refine r_seq ?_
      refine r_region ?_
      refine l_x rfl (x_mv rfl) ?_
      refine l_index EI rfl (hL.le S1.le) rfl rfl Tryz.runUnderlying23 Tryz.sizeOf3 (by omega) ha ?_
      intro b20 o21 hat22 row23
      refine l_x rfl (x_load rfl (ld_cell Tryz.isAgg3 (row23 0 _ rfl))) ?_
      refine l_x rfl (x_as rfl) ?_
      refine l_x rfl (x_as rfl) ?_
      refine l_nil ?_
      refine r_seq ?_
      refine r_drawE 16 (Rsc.fp (vec EI v13 (pre (baseS t l) 0 i))) Tryz.mixed (by kernel_rfl) ?_
      intro w24 hl25
      have S26 := S1.step hl25
      refine e_exact 0 _ (by kernel_rfl) rfl rfl (by kernel_rfl) rfl (ex_x rfl (fun w1 h1 => x_mv rfl)) ?_
      refine e_exact 1 _ (by kernel_rfl) rfl rfl (by kernel_rfl) rfl (ex_x rfl (fun w1 h1 => x_mv rfl)) ?_
      refine e_exact 2 _ (by kernel_rfl) rfl rfl (by kernel_rfl) rfl (ex_x rfl (fun w1 h1 => x_mv rfl)) ?_
      refine e_exact 3 _ (by kernel_rfl) rfl rfl (by kernel_rfl) rfl (ex_x rfl (fun w1 h1 => x_mv rfl)) ?_
      refine e_exact 4 _ (by kernel_rfl) rfl rfl (by kernel_rfl) rfl (ex_x rfl (fun w1 h1 => x_mv rfl)) ?_
      refine e_exact 5 _ (by kernel_rfl) rfl rfl (by kernel_rfl) rfl (ex_x rfl (fun w1 h1 => x_mv rfl)) ?_
      refine e_exact 6 _ (by kernel_rfl) rfl rfl (by kernel_rfl) rfl (ex_x rfl (fun w1 h1 => x_mul rfl rfl (by omega))) ?_
      refine e_exact 7 _ (by kernel_rfl) rfl rfl (by kernel_rfl) rfl (ex_x rfl (fun w1 h1 => x_mv rfl)) ?_
      refine e_exact 8 _ (by kernel_rfl) rfl rfl (by kernel_rfl) rfl (ex_x rfl (fun w1 h1 => x_quo rfl rfl ⟨hm0.1, hsp, by omega⟩)) ?_
      refine e_exact 9 _ (by kernel_rfl) rfl rfl (by kernel_rfl) rfl (ex_x rfl (fun w1 h1 => x_mv rfl)) ?_
      refine e_exact 10 _ (by kernel_rfl) rfl rfl (by kernel_rfl) rfl (ex_x rfl (fun w1 h1 => x_mv rfl)) ?_
      refine e_exact 11 _ (by kernel_rfl) rfl rfl (by kernel_rfl) rfl (ex_x rfl (fun w1 h1 => x_mul rfl rfl (by omega))) ?_
      refine e_exact 12 _ (by kernel_rfl) rfl rfl (by kernel_rfl) rfl (ex_x rfl (fun w1 h1 => x_mv rfl)) ?_
      refine e_exact 13 _ (by kernel_rfl) rfl rfl (by kernel_rfl) rfl (ex_x rfl (fun w1 h1 => x_rem rfl rfl ⟨hm0.1, hsp⟩)) ?_
      refine e_index EI 14 (by kernel_rfl) rfl rfl (by kernel_rfl) rfl rfl (vec_rd (S26.at 0 rfl)) rfl rfl Tryz.runUnderlying23 Tryz.sizeOf3 (by omega) (pre_get (by rw [hbl]; omega)) ?_
      intro b27 o28 hat29
      refine e_next [15] (by kernel_rfl) (by kernel_rfl) ⟨⟨_, _, rfl, rfl, ?_⟩, trivial⟩
      refine s_storevi (f := 0) S26 0 rfl rfl hat29 rfl rfl Tryz.sizeOf3 (pre_get (by rw [hbl]; omega)) (by decide) rfl ?_
      intro w30 S31 hk32
      refine ⟨hk32, ?_⟩
      refine e_done (by kernel_rfl) ?_
      refine l_index EI rfl (vec_rd (S31.at 1 rfl)) rfl rfl Tryz.runUnderlying23 Tryz.sizeOf3 (by omega) (pre_get (by rw [hcl]; omega)) ?_
      intro b33 o34 hat35 row36
      refine l_storevi (f := 0) S31 1 rfl rfl hat35 rfl rfl Tryz.sizeOf3 (pre_get (by rw [hcl]; omega)) (by decide) rfl ?_
      intro w37 S38 hk39
      refine l_nil ?_
      refine r_region ?_
      refine l_x rfl (x_mv rfl) ?_
      refine l_x rfl (x_mv rfl) ?_
      refine l_x rfl (x_mv rfl) ?_
      refine l_index EI rfl (vec_rd (S38.at 0 rfl)) rfl rfl Tryz.runUnderlying23 Tryz.sizeOf3 (by omega) (by rw [Int.toNat_natCast, pre_step hba]; exact pre_last hba) ?_
      intro b40 o41 hat42 row43
      refine l_x rfl (x_load rfl (ld_cell Tryz.isAgg3 (row43 0 _ rfl))) ?_
      refine l_x rfl (x_sub rfl rfl (by omega)) ?_
      refine l_x rfl (x_as rfl) ?_
      refine l_nil ?_
      refine r_inBlock ?_
      refine r_region ?_
      refine l_x rfl (x_add rfl rfl (by omega)) ?_
      refine l_x rfl (x_mv rfl) ?_
      refine l_nil ?_
      exact IH (i + 1) _ _ (by omega) ⟨rfl, rfl, rfl, rfl, (congrArg (Value.int .i64) (by rw [sumI_take hba]; omega)), rfl, rfl, rfl, trivial⟩ ⟨by omega, (by rw [← pre_step hba, ← pre_step hca]; exact S38.take 2)⟩
    obtain rfl : i = l.length := by omega
    refine r_exit rfl ?_
    refine r_seq ?_
    refine r_seq ?_
    rw [show l.length = (baseS t l).length from hbl.symm, pre_full, hbl, show l.length = (cutS t l).length from hcl.symm, pre_full] at S1
    refine r_slot 10 (.int .i64 (t - sumI (baseS t l))) (congrArg (Value.int .i64) (by rw [← hbl, List.take_length])) ?_
    refine r_region ?_
    refine l_x rfl (x_mv rfl) ?_
    refine l_call [] [] [_, _] rfl rfl Tryz.call28 rfl (c_shsorted _ _ ⟨by rw [hcl]; omega, by rw [hcl]; omega⟩ _ (vec_rd (S1.at 1 rfl))) ?_
    rintro v6344 w44 ⟨L6344, hp6344, hs6344, hN6344, hl6344⟩
    have S45 := S1.add hl6344 hN6344
    have hLl6344 := hp6344.length_eq
    rw [idxs_len] at hLl6344
    refine l_x rfl (x_mv rfl) ?_
    refine l_prefix S45 2 rfl rfl rfl rfl Tryz.runUnderlying23 Tryz.sizeOf3 (by rw [hLl6344, hcl]; omega) ?_
    intro v46 S47
    refine l_x rfl (x_len (vec_rd (S47.at 2 rfl)) rfl Tryz.runUnderlying23) ?_
    refine l_x rfl (x_mv rfl) ?_
    refine l_nil ?_
    refine r_block ?_
    refine r_loop (G := Nat) (fun i => (L6344.take (t - sumI (baseS t l)).toNat).length - i) (fun i => [(8, v13), (65, v46), (66, .int .i64 (L6344.take (t - sumI (baseS t l)).toNat).length), (67, .int .i64 i)]) (fun i w' => (i ≤ (L6344.take (t - sumI (baseS t l)).toNat).length) ∧ Own nob w w' [vec EI v13 (bumps (baseS t l) ((L6344.take (t - sumI (baseS t l)).toNat).take i)), vec EI v46 (L6344.take (t - sumI (baseS t l)).toNat)]) 0 ⟨rfl, rfl, rfl, rfl, trivial⟩ ⟨Nat.zero_le _, (S47.pick [0, 2] (by decide) rfl)⟩ ?_
    rintro i ρ w1b ⟨hi2, S1b⟩ IHb
    refine r_seq ?_
    refine r_region ?_
    refine l_x rfl (x_lss rfl rfl) ?_
    refine l_nil ?_
    refine r_seq ?_
    refine r_ifd rfl (fun hc68 => ?_) (fun hc68 => ?_)
    · skip
      obtain ⟨x, hx⟩ : ∃ x, (L6344.take (t - sumI (baseS t l)).toNat)[i]? = some x := ⟨_, List.getElem?_eq_getElem (by omega)⟩
      have hxm := mem_idxs.1 (hp6344.mem_iff.1 (List.mem_of_mem_take (List.mem_of_getElem? hx)))
      rw [hcl] at hxm
      have hzg := bump_get (o := baseS t l) (M := (L6344.take (t - sumI (baseS t l)).toNat).take i) (i := x.toNat) (by rw [hbl]; omega)
      have hzb := bump_bd htb hl0 hsp hp6344 hs6344 hcl (k := (t - sumI (baseS t l)).toNat) (i := i) x.toNat
      have hml9 : (L6344.take (t - sumI (baseS t l)).toNat).length ≤ L6344.length := by rw [List.length_take]; exact Nat.min_le_right _ _
      refine r_skip ?_
      refine r_seq ?_
      refine r_block ?_
      refine r_seq ?_
      refine r_region ?_
      refine l_index EI rfl (vec_rd (S1b.at 1 rfl)) rfl rfl Tryz.runUnderlying23 Tryz.sizeOf3 (by omega) hx ?_
      intro b48 o49 hat50 row51
      refine l_x rfl (x_load rfl (ld_cell Tryz.isAgg3 (row51 0 _ rfl))) ?_
      refine l_x rfl (x_as rfl) ?_
      refine l_nil ?_
      refine r_region ?_
      refine l_x rfl (x_mv rfl) ?_
      refine l_x rfl (x_mv rfl) ?_
      refine l_index EI rfl (vec_rd (S1b.at 0 rfl)) rfl rfl Tryz.runUnderlying23 Tryz.sizeOf3 (by omega) hzg ?_
      intro b52 o53 hat54 row55
      refine l_x rfl (x_load rfl (ld_cell Tryz.isAgg3 (row55 0 _ rfl))) ?_
      refine l_x rfl (x_add rfl rfl (by omega)) ?_
      refine l_index EI rfl (vec_rd (S1b.at 0 rfl)) rfl rfl Tryz.runUnderlying23 Tryz.sizeOf3 (by omega) hzg ?_
      intro b56 o57 hat58 row59
      refine l_storevi (f := 0) S1b 0 rfl rfl hat58 rfl rfl Tryz.sizeOf3 hzg (by decide) rfl ?_
      intro w60 S61 hk62
      refine l_nil ?_
      refine r_inBlock ?_
      refine r_region ?_
      refine l_x rfl (x_add rfl rfl (by omega)) ?_
      refine l_x rfl (x_mv rfl) ?_
      refine l_nil ?_
      exact IHb (i + 1) _ _ (by omega) ⟨rfl, rfl, rfl, rfl, trivial⟩ ⟨by omega, (by rw [List.take_add_one, hx, show (some x).toList = [x] from rfl, bumps_snoc]; exact S61.take 2)⟩
    obtain rfl : i = (L6344.take (t - sumI (baseS t l)).toNat).length := by omega
    rw [List.take_length] at S1b
    refine r_exit rfl ?_
    refine r_seq ?_
    refine r_region ?_
    refine l_x rfl (x_mv rfl) ?_
    refine l_x rfl (x_as rfl) ?_
    refine l_x rfl (x_as rfl) ?_
    refine l_nil ?_
    refine r_ret (rs := [.tmp 4, .tmp 5]) [_, _] Tryz.func10 rfl ⟨rfl, rfl, trivial⟩ ?_
    exact ⟨_, _, _, congrArg (fun q => Value.tuple #[_, .int .i64 q]) h0.symm, rfl, fun _ => whole_of (c := fun x => (cutS t l).getD x.toNat 0) (fun j => rfl) (by rw [← hcl]; exact hp6344) hs6344 hlf.1, S1b.new 0 rfl, S1b.le⟩
  refine s_make EI 0 S9 rfl Tryz.runUnderlying23 Tryz.sizeOf3 Tryz.typeInfo3 Tryz.zeroValue3 rfl rfl rfl rfl (Nat.le_refl _) (by unfold maxLen; omega) (by show _ * 8 ≤ _; omega) ?_
  intro v66 w63 hv67 S64 hl65
  refine ⟨.of_le hl65, ?_⟩
  refine e_next [2] (by kernel_rfl) (by kernel_rfl) ⟨⟨_, _, rfl, rfl, ?_⟩, trivial⟩
  refine s_make EI 0 S64 rfl Tryz.runUnderlying23 Tryz.sizeOf3 Tryz.typeInfo3 Tryz.zeroValue3 rfl rfl rfl rfl (Nat.le_refl _) (by unfold maxLen; omega) (by show _ * 8 ≤ _; omega) ?_
  intro v71 w68 hv72 S69 hl70
  refine ⟨.of_le hl70, ?_⟩
  refine e_exact 6 _ (by kernel_rfl) rfl rfl (by kernel_rfl) rfl (ex_x rfl (fun w1 h1 => x_as rfl)) ?_
  refine e_exact 7 _ (by kernel_rfl) rfl rfl (by kernel_rfl) rfl (ex_x rfl (fun w1 h1 => x_as rfl)) ?_
  refine e_done (by kernel_rfl) ?_
  refine l_nil ?_
  refine r_seq ?_
  refine r_region ?_
  refine l_x rfl (x_mv rfl) ?_
  refine l_x rfl (x_as rfl) ?_
  refine l_nil ?_
  refine r_seq ?_
  refine r_seq ?_
  refine r_region ?_
  refine l_x rfl (x_mv rfl) ?_
  refine l_x rfl (x_len (hL.le S69.le) rfl Tryz.runUnderlying23) ?_
  refine l_x rfl (x_mv rfl) ?_
  refine l_nil ?_
  refine r_block ?_
  refine r_loop (G := Nat) (fun i => l.length - i) (fun i => [(0, .int .i64 t), (6, .int .i64 (sumI l)), (8, v71), (9, v66), (10, .int .i64 (t - sumI ((baseS t l).take i))), (32, vl), (33, .int .i64 l.length), (34, .int .i64 i)]) (fun i w' => (i ≤ l.length) ∧ Own nob w w' [vec EI v71 (pre (baseS t l) 0 i), vec EI v66 (pre (cutS t l) 0 i)]) 0 ⟨rfl, (congrArg (Value.int .i64) (if_pos h0)), rfl, rfl, (congrArg (Value.int .i64) (by rw [List.take_zero, sumI_nil, Int.sub_zero])), rfl, rfl, rfl, trivial⟩ ⟨Nat.zero_le _, (by rw [pre_zero, pre_zero, hbl, hcl]; exact S69.pick [1, 0] (by decide) rfl)⟩ ?_
  rintro i ρ w1 ⟨hi, S1⟩ IH
  refine r_seq ?_
  refine r_region ?_
  refine l_x rfl (x_lss rfl rfl) ?_
  refine l_nil ?_
  refine r_seq ?_
  refine r_ifd rfl (fun hc35 => ?_) (fun hc35 => ?_)
  · skip
    obtain ⟨a, ha⟩ : ∃ a, l[i]? = some a := ⟨_, List.getElem?_eq_getElem (by omega)⟩
    have hab := hl0 a (List.mem_of_getElem? ha)
    have hba : (baseS t l)[i]? = some (t * a / sumI l) := by simp [baseS, ha]
    have hca : (cutS t l)[i]? = some (t * a % sumI l) := by simp [cutS, ha]
    have hm0 := mul_bd htb hab
    have hdv := div_bd (s := sumI l) hm0 hsp
    have hlb := base_bd htb hl0 hsp i
    refine r_skip ?_
    refine r_seq ?_
    refine r_block ?_
    refine r_seq ?_
    refine r_region ?_
    refine l_x rfl (x_mv rfl) ?_
    refine l_index EI rfl (hL.le S1.le) rfl rfl Tryz.runUnderlying23 Tryz.sizeOf3 (by omega) ha ?_
    intro b73 o74 hat75 row76
    refine l_x rfl (x_load rfl (ld_cell Tryz.isAgg3 (row76 0 _ rfl))) ?_
    refine l_x rfl (x_as rfl) ?_
    refine l_x rfl (x_as rfl) ?_
    refine l_nil ?_
    refine r_seq ?_
    refine r_drawE 16 (Rsc.fp (vec EI v71 (pre (baseS t l) 0 i))) Tryz.mixed (by kernel_rfl) ?_
    intro w77 hl78
    have S79 := S1.step hl78
    refine e_exact 0 _ (by kernel_rfl) rfl rfl (by kernel_rfl) rfl (ex_x rfl (fun w1 h1 => x_mv rfl)) ?_
    refine e_exact 1 _ (by kernel_rfl) rfl rfl (by kernel_rfl) rfl (ex_x rfl (fun w1 h1 => x_mv rfl)) ?_
    refine e_exact 2 _ (by kernel_rfl) rfl rfl (by kernel_rfl) rfl (ex_x rfl (fun w1 h1 => x_mv rfl)) ?_
    refine e_exact 3 _ (by kernel_rfl) rfl rfl (by kernel_rfl) rfl (ex_x rfl (fun w1 h1 => x_mv rfl)) ?_
    refine e_exact 4 _ (by kernel_rfl) rfl rfl (by kernel_rfl) rfl (ex_x rfl (fun w1 h1 => x_mv rfl)) ?_
    refine e_exact 5 _ (by kernel_rfl) rfl rfl (by kernel_rfl) rfl (ex_x rfl (fun w1 h1 => x_mv rfl)) ?_
    refine e_exact 6 _ (by kernel_rfl) rfl rfl (by kernel_rfl) rfl (ex_x rfl (fun w1 h1 => x_mul rfl rfl (by omega))) ?_
    refine e_exact 7 _ (by kernel_rfl) rfl rfl (by kernel_rfl) rfl (ex_x rfl (fun w1 h1 => x_mv rfl)) ?_
    refine e_exact 8 _ (by kernel_rfl) rfl rfl (by kernel_rfl) rfl (ex_x rfl (fun w1 h1 => x_quo rfl rfl ⟨hm0.1, hsp, by omega⟩)) ?_
    refine e_exact 9 _ (by kernel_rfl) rfl rfl (by kernel_rfl) rfl (ex_x rfl (fun w1 h1 => x_mv rfl)) ?_
    refine e_exact 10 _ (by kernel_rfl) rfl rfl (by kernel_rfl) rfl (ex_x rfl (fun w1 h1 => x_mv rfl)) ?_
    refine e_exact 11 _ (by kernel_rfl) rfl rfl (by kernel_rfl) rfl (ex_x rfl (fun w1 h1 => x_mul rfl rfl (by omega))) ?_
    refine e_exact 12 _ (by kernel_rfl) rfl rfl (by kernel_rfl) rfl (ex_x rfl (fun w1 h1 => x_mv rfl)) ?_
    refine e_exact 13 _ (by kernel_rfl) rfl rfl (by kernel_rfl) rfl (ex_x rfl (fun w1 h1 => x_rem rfl rfl ⟨hm0.1, hsp⟩)) ?_
    refine e_index EI 14 (by kernel_rfl) rfl rfl (by kernel_rfl) rfl rfl (vec_rd (S79.at 0 rfl)) rfl rfl Tryz.runUnderlying23 Tryz.sizeOf3 (by omega) (pre_get (by rw [hbl]; omega)) ?_
    intro b80 o81 hat82
    refine e_next [15] (by kernel_rfl) (by kernel_rfl) ⟨⟨_, _, rfl, rfl, ?_⟩, trivial⟩
    refine s_storevi (f := 0) S79 0 rfl rfl hat82 rfl rfl Tryz.sizeOf3 (pre_get (by rw [hbl]; omega)) (by decide) rfl ?_
    intro w83 S84 hk85
    refine ⟨hk85, ?_⟩
    refine e_done (by kernel_rfl) ?_
    refine l_index EI rfl (vec_rd (S84.at 1 rfl)) rfl rfl Tryz.runUnderlying23 Tryz.sizeOf3 (by omega) (pre_get (by rw [hcl]; omega)) ?_
    intro b86 o87 hat88 row89
    refine l_storevi (f := 0) S84 1 rfl rfl hat88 rfl rfl Tryz.sizeOf3 (pre_get (by rw [hcl]; omega)) (by decide) rfl ?_
    intro w90 S91 hk92
    refine l_nil ?_
    refine r_region ?_
    refine l_x rfl (x_mv rfl) ?_
    refine l_x rfl (x_mv rfl) ?_
    refine l_x rfl (x_mv rfl) ?_
    refine l_index EI rfl (vec_rd (S91.at 0 rfl)) rfl rfl Tryz.runUnderlying23 Tryz.sizeOf3 (by omega) (by rw [Int.toNat_natCast, pre_step hba]; exact pre_last hba) ?_
    intro b93 o94 hat95 row96
    refine l_x rfl (x_load rfl (ld_cell Tryz.isAgg3 (row96 0 _ rfl))) ?_
    refine l_x rfl (x_sub rfl rfl (by omega)) ?_
    refine l_x rfl (x_as rfl) ?_
    refine l_nil ?_
    refine r_inBlock ?_
    refine r_region ?_
    refine l_x rfl (x_add rfl rfl (by omega)) ?_
    refine l_x rfl (x_mv rfl) ?_
    refine l_nil ?_
    exact IH (i + 1) _ _ (by omega) ⟨rfl, rfl, rfl, rfl, (congrArg (Value.int .i64) (by rw [sumI_take hba]; omega)), rfl, rfl, rfl, trivial⟩ ⟨by omega, (by rw [← pre_step hba, ← pre_step hca]; exact S91.take 2)⟩
  obtain rfl : i = l.length := by omega
  refine r_exit rfl ?_
  refine r_seq ?_
  refine r_seq ?_
  rw [show l.length = (baseS t l).length from hbl.symm, pre_full, hbl, show l.length = (cutS t l).length from hcl.symm, pre_full] at S1
  refine r_slot 10 (.int .i64 (t - sumI (baseS t l))) (congrArg (Value.int .i64) (by rw [← hbl, List.take_length])) ?_
  refine r_region ?_
  refine l_x rfl (x_mv rfl) ?_
  refine l_call [] [] [_, _] rfl rfl Tryz.call28 rfl (c_shsorted _ _ ⟨by rw [hcl]; omega, by rw [hcl]; omega⟩ _ (vec_rd (S1.at 1 rfl))) ?_
  rintro v6397 w97 ⟨L6397, hp6397, hs6397, hN6397, hl6397⟩
  have S98 := S1.add hl6397 hN6397
  have hLl6397 := hp6397.length_eq
  rw [idxs_len] at hLl6397
  refine l_x rfl (x_mv rfl) ?_
  refine l_prefix S98 2 rfl rfl rfl rfl Tryz.runUnderlying23 Tryz.sizeOf3 (by rw [hLl6397, hcl]; omega) ?_
  intro v99 S100
  refine l_x rfl (x_len (vec_rd (S100.at 2 rfl)) rfl Tryz.runUnderlying23) ?_
  refine l_x rfl (x_mv rfl) ?_
  refine l_nil ?_
  refine r_block ?_
  refine r_loop (G := Nat) (fun i => (L6397.take (t - sumI (baseS t l)).toNat).length - i) (fun i => [(8, v71), (65, v99), (66, .int .i64 (L6397.take (t - sumI (baseS t l)).toNat).length), (67, .int .i64 i)]) (fun i w' => (i ≤ (L6397.take (t - sumI (baseS t l)).toNat).length) ∧ Own nob w w' [vec EI v71 (bumps (baseS t l) ((L6397.take (t - sumI (baseS t l)).toNat).take i)), vec EI v99 (L6397.take (t - sumI (baseS t l)).toNat)]) 0 ⟨rfl, rfl, rfl, rfl, trivial⟩ ⟨Nat.zero_le _, (S100.pick [0, 2] (by decide) rfl)⟩ ?_
  rintro i ρ w1b ⟨hi2, S1b⟩ IHb
  refine r_seq ?_
  refine r_region ?_
  refine l_x rfl (x_lss rfl rfl) ?_
  refine l_nil ?_
  refine r_seq ?_
  refine r_ifd rfl (fun hc68 => ?_) (fun hc68 => ?_)
  · skip
    obtain ⟨x, hx⟩ : ∃ x, (L6397.take (t - sumI (baseS t l)).toNat)[i]? = some x := ⟨_, List.getElem?_eq_getElem (by omega)⟩
    have hxm := mem_idxs.1 (hp6397.mem_iff.1 (List.mem_of_mem_take (List.mem_of_getElem? hx)))
    rw [hcl] at hxm
    have hzg := bump_get (o := baseS t l) (M := (L6397.take (t - sumI (baseS t l)).toNat).take i) (i := x.toNat) (by rw [hbl]; omega)
    have hzb := bump_bd htb hl0 hsp hp6397 hs6397 hcl (k := (t - sumI (baseS t l)).toNat) (i := i) x.toNat
    have hml9 : (L6397.take (t - sumI (baseS t l)).toNat).length ≤ L6397.length := by rw [List.length_take]; exact Nat.min_le_right _ _
    refine r_skip ?_
    refine r_seq ?_
    refine r_block ?_
    refine r_seq ?_
    refine r_region ?_
    refine l_index EI rfl (vec_rd (S1b.at 1 rfl)) rfl rfl Tryz.runUnderlying23 Tryz.sizeOf3 (by omega) hx ?_
    intro b101 o102 hat103 row104
    refine l_x rfl (x_load rfl (ld_cell Tryz.isAgg3 (row104 0 _ rfl))) ?_
    refine l_x rfl (x_as rfl) ?_
    refine l_nil ?_
    refine r_region ?_
    refine l_x rfl (x_mv rfl) ?_
    refine l_x rfl (x_mv rfl) ?_
    refine l_index EI rfl (vec_rd (S1b.at 0 rfl)) rfl rfl Tryz.runUnderlying23 Tryz.sizeOf3 (by omega) hzg ?_
    intro b105 o106 hat107 row108
    refine l_x rfl (x_load rfl (ld_cell Tryz.isAgg3 (row108 0 _ rfl))) ?_
    refine l_x rfl (x_add rfl rfl (by omega)) ?_
    refine l_index EI rfl (vec_rd (S1b.at 0 rfl)) rfl rfl Tryz.runUnderlying23 Tryz.sizeOf3 (by omega) hzg ?_
    intro b109 o110 hat111 row112
    refine l_storevi (f := 0) S1b 0 rfl rfl hat111 rfl rfl Tryz.sizeOf3 hzg (by decide) rfl ?_
    intro w113 S114 hk115
    refine l_nil ?_
    refine r_inBlock ?_
    refine r_region ?_
    refine l_x rfl (x_add rfl rfl (by omega)) ?_
    refine l_x rfl (x_mv rfl) ?_
    refine l_nil ?_
    exact IHb (i + 1) _ _ (by omega) ⟨rfl, rfl, rfl, rfl, trivial⟩ ⟨by omega, (by rw [List.take_add_one, hx, show (some x).toList = [x] from rfl, bumps_snoc]; exact S114.take 2)⟩
  obtain rfl : i = (L6397.take (t - sumI (baseS t l)).toNat).length := by omega
  rw [List.take_length] at S1b
  refine r_exit rfl ?_
  refine r_seq ?_
  refine r_region ?_
  refine l_x rfl (x_mv rfl) ?_
  refine l_x rfl (x_as rfl) ?_
  refine l_x rfl (x_as rfl) ?_
  refine l_nil ?_
  refine r_ret (rs := [.tmp 4, .tmp 5]) [_, _] Tryz.func10 rfl ⟨rfl, rfl, trivial⟩ ?_
  exact ⟨_, _, _, congrArg (fun q => Value.tuple #[_, .int .i64 q]) h0.symm, rfl, fun _ => whole_of (c := fun x => (cutS t l).getD x.toNat 0) (fun j => rfl) (by rw [← hcl]; exact hp6397) hs6397 hlf.1, S1b.new 0 rfl, S1b.le⟩

end Go.Proofs

/-
  Contracts of functions of the program: each by symbolic execution of its text.
-/
namespace Go.Proofs
open Go Go.Vk Go.Vk.Flow

open Go.Vk.Deed Go.Vk.Share
abbrev EF := frE 28
theorem info28 : Tryz.prog.info? 28 = some Tryz.t28 := by kernel_rfl
theorem intF28 : IntFields Tryz.prog 0 (Tryz.prog.fieldsOf 28).toList := intFields_of (P := Tryz.prog) (t := 3) Tryz.underlying3 Tryz.isAgg3 (Tryz.prog.fieldsOf 28).toList 0 (by kernel_rfl)
theorem struct28 : Tryz.prog.underlying 28 = some (.struct (Tryz.prog.fieldsOf 28)) := by kernel_rfl
theorem stood28 : Tryz.prog.stoodInHeld 28 = false := by kernel_rfl
theorem guard28 : Tryz.prog.eqGuardType Tryz.prog.depth 28 = false := by kernel_rfl
theorem len28 : (Tryz.prog.fieldsOf 28).toList.length = 2 := by kernel_rfl
theorem fr_inj {a b : Fr} : [a.num, a.den] = [b.num, b.den] ↔ a = b := by cases a; cases b; simp
theorem x_eqF {a b : Fr} {w : World} {E : Operand → Value} {x y : Operand} {T ty : TypeId} (hx : E x = .agg (encF a).toArray) (hy : E y = .agg (encF b).toArray) : X Tryz.prog E (.binOp .eql 28 x y T) ty w (.bool (decide (a = b))) w := by
  have h := x_eqints (T' := T) (ty := ty) (w := w) (a := [a.num, a.den]) (b := [b.num, b.den]) struct28 stood28 guard28 intF28 (by rw [len28]; rfl) (by rw [len28]; rfl) hx hy
  have e : decide ([a.num, a.den] = [b.num, b.den]) = decide (a = b) := decide_eq_decide.2 (by rw [fr_inj])
  rwa [e] at h
/-- couchant/share.divisor. -/
theorem c_divisor (a b : Int) (ha : -9200000000000000000 ≤ a ∧ a ≤ 9200000000000000000) (hb : -9200000000000000000 ≤ b ∧ b ≤ 9200000000000000000) (w : World) :
    Cl Tryz.prog 58 #[.int .i64 a, .int .i64 b] w fun v w' => v = .int .i64 (gcdF a b) ∧ Le w w' := by
  refine fn_of_run (args := [_, _]) 15 Tryz.func58 rfl rfl rfl fun cs => ?_
  have S := Own.start (X := nob) w
  refine r_seq ?_
  refine r_region ?_
  refine l_x rfl (x_as rfl) ?_
  refine l_nil ?_
  refine r_seq ?_
  refine r_block ?_
  refine r_loop (G := Int × Int) (fun ⟨x, y⟩ => y.natAbs) (fun ⟨x, y⟩ => [(0, .int .i64 x), (1, .int .i64 y)]) (fun ⟨x, y⟩ w' => (gcdF x y = gcdF a b) ∧ (-9200000000000000000 ≤ x ∧ x ≤ 9200000000000000000) ∧ (-9200000000000000000 ≤ y ∧ y ≤ 9200000000000000000) ∧ Own nob w w' []) (a, b) ⟨rfl, rfl, trivial⟩ ⟨rfl, ha, hb, S⟩ ?_
  rintro ⟨x, y⟩ ρ w1 ⟨hg, hbx, hby, S1⟩ IH
  refine r_seq ?_
  refine r_seq ?_
  refine r_region ?_
  refine l_x rfl (x_mv rfl) ?_
  refine l_x rfl (x_neq rfl rfl) ?_
  refine l_nil ?_
  refine r_ifd rfl (fun hc6 => ?_) (fun hc6 => ?_)
  · skip
    refine r_skip ?_
    refine r_block ?_
    refine r_drawR 6 Tryz.mixed (by kernel_rfl) ?_
    refine w_x rfl (fun w1 h1 => x_mv rfl) ?_
    refine w_x rfl (fun w1 h1 => x_mv rfl) ?_
    refine w_x rfl (fun w1 h1 => x_mv rfl) ?_
    refine w_x rfl (fun w1 h1 => x_remt rfl rfl hc6) ?_
    refine w_x rfl (fun w1 h1 => x_as rfl) ?_
    refine w_x rfl (fun w1 h1 => x_as rfl) ?_
    refine w_nil ?_
    intro w1 hl2
    have S3 := S1.step hl2
    refine l_nil ?_
    refine r_inBlock ?_
    exact IH (y, x.tmod y) _ _ (tmod_lt hc6) ⟨rfl, rfl, trivial⟩ ⟨(gcd_step x y).trans hg, hby, tmod_bd hbx, S3⟩
  have hy0 : y = 0 := Decidable.not_not.1 hc6
  subst hy0
  refine r_exit rfl ?_
  refine r_seq ?_
  refine r_region ?_
  refine l_x rfl (x_mv rfl) ?_
  refine l_x rfl (x_mv rfl) ?_
  refine l_x rfl (x_neg rfl (by omega)) ?_
  refine l_x rfl (x_max rfl rfl) ?_
  refine l_x rfl (x_as rfl) ?_
  refine l_nil ?_
  refine r_ret (rs := [.tmp 4]) [_] Tryz.func58 rfl ⟨rfl, trivial⟩ ?_
  exact ⟨congrArg (Value.int .i64) (by rw [← hg, gcd_zero]; exact max_neg x), S1.le⟩

/-- couchant/share.norm. -/
theorem c_norm (a b : Int) (ha : -9200000000000000000 ≤ a ∧ a ≤ 9200000000000000000) (hb : 0 < b ∧ b ≤ 9200000000000000000) (w : World) :
    Cp Tryz.prog 26 #[.int .i64 a, .int .i64 b] w (fun v w' => v = .agg (encF (nrm a b)).toArray ∧ okF (nrm a b) = true ∧ Le w w') (fun v w' => v = (.iface 99 (.agg #[])) ∧ okF (nrm a b) = false ∧ Le w w') := by
  have hb9 : -9200000000000000000 ≤ b ∧ b ≤ 9200000000000000000 := ⟨by omega, hb.2⟩
  have hgp := gcd_pos (a := a) hb.1
  refine fn_of_runP (args := [_, _]) 31 Tryz.func26 rfl rfl rfl fun cs => ?_
  have S := Own.start (X := nob) w
  refine r_seq ?_
  refine r_region ?_
  refine l_alloc S rfl Tryz.zeroValue66 rfl ?_
  intro b4 w1 S2 hl3
  refine l_nil ?_
  refine r_seq ?_
  refine r_region ?_
  refine l_x rfl (x_mv rfl) ?_
  refine l_x rfl (x_mv rfl) ?_
  refine l_call [] [] [_, _] rfl rfl Tryz.call58 rfl (c_divisor a b ha hb9 _) ?_
  rintro _ w5 ⟨rfl, hl7⟩
  have S6 := S2.step hl7
  refine l_x rfl (x_as rfl) ?_
  refine l_nil ?_
  refine r_seq ?_
  refine r_seq ?_
  refine r_region ?_
  refine l_x rfl (x_mv rfl) ?_
  refine l_x rfl (x_lss rfl rfl) ?_
  refine l_nil ?_
  refine r_ifd rfl (fun hc10 => ?_) (fun hc10 => ?_)
  · omega
  refine r_skip ?_
  refine r_seq ?_
  refine r_drawR 8 Tryz.mixed (by kernel_rfl) ?_
  refine w_x rfl (fun w1 h1 => x_mv rfl) ?_
  refine w_x rfl (fun w1 h1 => x_mv rfl) ?_
  refine w_x rfl (fun w1 h1 => x_quot rfl rfl ⟨by omega, by omega, by omega⟩) ?_
  refine w_x rfl (fun w1 h1 => x_mv rfl) ?_
  refine w_x rfl (fun w1 h1 => x_mv rfl) ?_
  refine w_x rfl (fun w1 h1 => x_quot rfl rfl ⟨by omega, by omega, by omega⟩) ?_
  refine w_x rfl (fun w1 h1 => x_as rfl) ?_
  refine w_x rfl (fun w1 h1 => x_as rfl) ?_
  refine w_nil ?_
  intro w8 hl9
  have S10 := S6.step hl9
  refine l_nil ?_
  refine r_seq ?_
  refine r_seq ?_
  refine r_region ?_
  refine l_x rfl (x_mv rfl) ?_
  refine l_call [] [] [_, _, _] rfl rfl Tryz.call23 rfl (c_within _ _ _ _) ?_
  rintro _ w11 ⟨rfl, hl13⟩
  have S12 := S10.step hl13
  refine l_x rfl (x_not rfl) ?_
  refine l_x rfl (x_mv rfl) ?_
  refine l_split (d := 22) rfl (fun hg22 => ?_) (fun hg22 => ?_)
  · skip
    refine l_pass rfl ?_
    refine l_pass rfl ?_
    refine l_x rfl (x_pick_t rfl rfl) ?_
    refine l_nil ?_
    refine r_true rfl ?_
    refine r_region ?_
    refine l_x rfl (x_buildS (out := []) (ss := []) Tryz.zeroValue99 rfl Tryz.runUnderlying99 trivial fill_nil) ?_
    refine l_x rfl (x_mkiface rfl Tryz.runUnderlying99 rfl) ?_
    refine l_panic rfl rfl (fun k => ?_)
    exact leaveU_panic Tryz.func26 ⟨rfl, (by unfold okF nrm; simp_all; try omega), S12.le⟩
  refine l_x rfl (x_mv rfl) ?_
  refine l_x rfl (x_gtr rfl rfl) ?_
  refine l_x rfl (x_pick_f rfl rfl) ?_
  refine l_nil ?_
  refine r_ifd rfl (fun hc25 => ?_) (fun hc25 => ?_)
  · skip
    refine r_region ?_
    refine l_x rfl (x_buildS (out := []) (ss := []) Tryz.zeroValue99 rfl Tryz.runUnderlying99 trivial fill_nil) ?_
    refine l_x rfl (x_mkiface rfl Tryz.runUnderlying99 rfl) ?_
    refine l_panic rfl rfl (fun k => ?_)
    exact leaveU_panic Tryz.func26 ⟨rfl, (by unfold okF nrm; simp_all; try omega), S12.le⟩
  refine r_skip ?_
  refine r_seq ?_
  refine r_region ?_
  refine l_x rfl (x_mv rfl) ?_
  refine l_x rfl (x_mv rfl) ?_
  refine l_x rfl (x_buildS (out := [_, _]) (ss := [1, 1]) Tryz.zeroValue66 rfl Tryz.runUnderlying66 ⟨Tryz.sizeOf3, Tryz.sizeOf3, trivial⟩ (fill_cons rfl rfl rfl (Nat.le_of_ble_eq_true rfl) (fill_cons rfl rfl rfl (Nat.le_of_ble_eq_true rfl) fill_nil))) ?_
  refine l_stores (vs := [_, _]) S12 0 rfl rfl rfl rfl (ones_cons rfl (ones_cons rfl ones_nil)) Tryz.sizeOf66 (by first | exact Nat.le_refl _ | simp) (splice_all rfl) ?_
  intro w14 S15 hk16
  refine l_nil ?_
  refine p_ret (rs := [.cell 4 66]) [_] Tryz.func26 rfl ⟨⟨_, rfl, (ld_blks (S15.blk 0 rfl) Tryz.isAgg66 Tryz.sizeOf66 rfl rfl)⟩, trivial⟩ ?_
  exact ⟨rfl, (by unfold okF nrm; simp_all; try omega), S15.le⟩

theorem c_normK (a b : Int) (ha : -9200000000000000000 ≤ a ∧ a ≤ 9200000000000000000) (hb : 0 < b ∧ b ≤ 9200000000000000000) (hk : okF (nrm a b) = true) (w : World) : Cl Tryz.prog 26 #[.int .i64 a, .int .i64 b] w fun v w' => v = .agg (encF (nrm a b)).toArray ∧ Le w w' :=
  ((c_norm a b ha hb w).mono (fun _ _ h => show _ from ⟨h.1, h.2.2⟩) fun _ _ h => by rw [hk] at h; cases h.2.1).cl

/-- couchant/share.ranged$1. -/
theorem c_ranged0 (be : Nat) (w : World) :
    Dl Tryz.prog 57 #[.pointer (some ⟨be, 0, none⟩)] (.returning) w (fun u w' => u = .returning ∧ Le w w') := by
  refine dl_of_run (args := [_]) 15 Tryz.func57 rfl rfl rfl fun c0 cs hc0 => d_same hc0 ?_
  have S := Own.start (X := nob) w
  refine r_seq ?_
  refine r_region ?_
  refine l_recover0 rfl ?_
  refine l_x rfl (x_as rfl) ?_
  refine l_nil ?_
  refine r_seq ?_
  refine r_region ?_
  refine l_x rfl (x_mv rfl) ?_
  refine l_x rfl (x_nneiface Tryz.runUnderlying20 rfl rfl (.inl rfl) rfl) ?_
  refine l_nil ?_
  refine r_false rfl ?_
  refine r_skip ?_
  refine d_end (rs := []) [] Tryz.func57 rfl trivial ?_
  exact ⟨rfl, S.le⟩

/-- couchant/share.ranged$1. -/
theorem c_ranged1 (be : Nat) (z : Value) (w : World) (S0 : Own (· = be) w w [blk be [z] 29]) :
    Dl Tryz.prog 57 #[.pointer (some ⟨be, 0, none⟩)] (.panicking [pentry (.iface 99 (.agg #[]))]) w (fun u w' => u = .panicking [pdone (.iface 99 (.agg #[]))] ∧ Own (· = be) w w' [blk be [.int .i64 2] 29]) := by
  refine dl_of_run (args := [_]) 15 Tryz.func57 rfl rfl rfl fun c0 cs hc0 => d_same hc0 ?_
  have S := S0
  refine r_seq ?_
  refine r_region ?_
  refine l_recover rfl ?_
  refine l_x rfl (x_as rfl) ?_
  refine l_nil ?_
  refine r_seq ?_
  refine r_region ?_
  refine l_x rfl (x_mv rfl) ?_
  refine l_x rfl (x_nneiface Tryz.runUnderlying20 rfl rfl (.inr ⟨_, _, rfl⟩) rfl) ?_
  refine l_nil ?_
  refine r_true rfl ?_
  refine r_seq ?_
  refine r_seq ?_
  refine r_region ?_
  refine l_x rfl (x_mv rfl) ?_
  refine l_x rfl (x_assert rfl Tryz.runUnderlying99 rfl) ?_
  refine l_x rfl (x_mv rfl) ?_
  refine l_x rfl (x_extract rfl rfl) ?_
  refine l_x rfl (x_extract rfl rfl) ?_
  refine l_alloc S rfl Tryz.zeroValue99 rfl ?_
  intro b4 w1 S2 hl3
  refine l_stores (vs := []) S2 1 rfl rfl rfl rfl (ones_nil) Tryz.sizeOf99 (by first | exact Nat.le_refl _ | simp) (splice_all rfl) ?_
  intro w5 S6 hk7
  refine l_x rfl (x_as rfl) ?_
  refine l_nil ?_
  refine r_seq ?_
  refine r_region ?_
  refine l_x rfl (x_mv rfl) ?_
  refine l_x rfl (x_not rfl) ?_
  refine l_nil ?_
  refine r_false rfl ?_
  refine r_skip ?_
  refine r_region ?_
  refine l_storeq (c' := [_]) S6 0 rfl rfl rfl rfl rfl Tryz.sizeOf29 (by first | (simp; done) | exact Nat.le_of_ble_eq_true rfl) rfl ?_
  intro w8 S9 hk10
  refine l_nil ?_
  refine d_end (rs := []) [] Tryz.func57 rfl trivial ?_
  exact ⟨rfl, S9.pick [0] (by decide) rfl⟩

set_option maxHeartbeats 1000000 in
/-- couchant/share.ranged. -/
theorem c_ranged (r : Rsc) (A B : Rsc → Prop) (kf : Nat) (caps : List Value) (w : World) (he : ∀ args w, (callFunc kf args).run Tryz.prog w = .ok (.enter kf args) w)
    (hf : ∀ w1, Own r.fp w1 w1 [r] → Keep r.fp w w1 → Cp Tryz.prog kf caps.toArray w1 (fun _ w2 => ∃ r', A r' ∧ Own r.fp w1 w2 [r']) fun v w2 => v = (.iface 99 (.agg #[])) ∧ ∃ r', B r' ∧ Own r.fp w1 w2 [r'])
    (S : Own r.fp w w [r]) :
    Cl Tryz.prog 24 #[.func (.func kf) #[] caps.toArray] w fun v w' => (v = .int .i64 0 ∧ ∃ r', A r' ∧ Own r.fp w w' [r']) ∨ (v = .int .i64 2 ∧ ∃ r', B r' ∧ Own r.fp w w' [r']) := by
  refine fn_of_run (args := [_]) 6 Tryz.func24 rfl rfl rfl fun cs => ?_
  refine r_seq ?_
  refine r_region ?_
  refine l_alloc S rfl Tryz.zeroValue29 rfl ?_
  intro b4 w1 S2 hl3
  refine l_nil ?_
  refine r_seq ?_
  refine r_region ?_
  refine l_x rfl (x_func rfl rfl) ?_
  refine l_defer [] [_] [] rfl rfl rfl rfl ?_
  refine l_nil ?_
  refine r_seq ?_
  refine r_region ?_
  refine l_x rfl (x_mv rfl) ?_
  refine l_callP [] caps caps rfl rfl he rfl (hf _ (S2.lend 0 rfl) S2.keep) ?_ ?_
  · skip
    rintro _ w5 ⟨r1, hA1, h1⟩
    have S6 := S2.back 0 rfl h1
    refine l_nil ?_
    refine r_seq ?_
    refine r_region ?_
    refine l_storeq (c' := [_]) S6 1 rfl rfl rfl rfl rfl Tryz.sizeOf29 (by first | (simp; done) | exact Nat.le_of_ble_eq_true rfl) rfl ?_
    intro w7 S8 hk9
    refine l_nil ?_
    refine r_retU rfl ?_
    refine leave_defer rfl Tryz.call57 (by intro h; cases h) ?_
    change Dl _ _ #[.pointer (some ⟨b4, 0, none⟩)] _ _ _
    refine (c_ranged0 _ _).mono ?_
    rintro _ wl ⟨rfl, hll⟩
    have Sl := S8.step hll
    refine leaveU_done (rs := [.cell 2 29]) [_] Tryz.func24 rfl ⟨⟨_, rfl, (ld_blk (Sl.blk 1 rfl) Tryz.isAgg29 rfl)⟩, trivial⟩ ?_
    exact .inl ⟨rfl, r1, hA1, Sl.take 1⟩
  rintro _ w10 k ⟨rfl, r1, hB1, h1⟩
  have S11 := S2.back 0 rfl h1
  refine leave_defer rfl Tryz.call57 (by intro h; cases h) ?_
  change Dl _ _ #[.pointer (some ⟨b4, 0, none⟩)] _ _ _
  refine (c_ranged1 _ _ _ (S11.lend 1 rfl)).mono ?_
  rintro _ wl ⟨rfl, hl2⟩
  have Sl := S11.back 1 rfl hl2
  refine leaveU_done (rs := [.cell 2 29]) [_] Tryz.func24 rfl ⟨⟨_, rfl, (ld_blk (Sl.blk 1 rfl) Tryz.isAgg29 rfl)⟩, trivial⟩ ?_
  exact .inr ⟨rfl, r1, hB1, Sl.take 1⟩

/-- couchant/share.Norm$1. -/
theorem c_Norm1 (a b : Int) (ba bb bo : Nat) (z1 z2 : Value) (ha : -9200000000000000000 ≤ a ∧ a ≤ 9200000000000000000) (hb : 0 < b ∧ b ≤ 9200000000000000000) (hk : okF (nrm a b) = true) (hna : ba ≠ bo) (hnb : bb ≠ bo) (w : World) (hA : Blk w ba [.int .i64 a] 3) (hB : Blk w bb [.int .i64 b] 3) (S0 : Own (· = bo) w w [blk bo [z1, z2] 28]) :
    Cl Tryz.prog 25 #[.pointer (some ⟨ba, 0, none⟩), .pointer (some ⟨bb, 0, none⟩), .pointer (some ⟨bo, 0, none⟩)] w fun _ w' => Own (· = bo) w w' [blk bo (encF (nrm a b)) 28] := by
  refine fn_of_run (args := [_, _, _]) 6 Tryz.func25 rfl rfl rfl fun cs => ?_
  have S := S0
  refine r_region ?_
  refine l_x rfl (x_load rfl (ld_blk (hA.keep S.keep hna) Tryz.isAgg3 rfl)) ?_
  refine l_x rfl (x_load rfl (ld_blk (hB.keep S.keep hnb) Tryz.isAgg3 rfl)) ?_
  refine l_call [] [] [_, _] rfl rfl Tryz.call26 rfl (c_normK a b ha hb hk _) ?_
  rintro _ w1 ⟨rfl, hl3⟩
  have S2 := S.step hl3
  refine l_stores S2 0 rfl rfl rfl rfl (EF.one _) Tryz.sizeOf28 (by first | exact Nat.le_refl _ | simp) (splice_all rfl) ?_
  intro w4 S5 hk6
  refine l_nil ?_
  refine r_end (rs := []) [] Tryz.func25 rfl trivial ?_
  exact S5

set_option maxHeartbeats 1000000 in
/-- couchant/share.Norm. -/
theorem c_Norm (a b : Int) (ha : -1000000000000 ≤ a ∧ a ≤ 1000000000000) (hb : 0 < b ∧ b ≤ 1000000) (w : World) :
    Cl Tryz.prog 9 #[.int .i64 a, .int .i64 b] w fun v w' => v = .tuple #[.agg (encF (nrm a b)).toArray, .int .i64 0] ∧ Le w w' := by
  have hA9 : -9200000000000000000 ≤ a ∧ a ≤ 9200000000000000000 := by omega
  have hB9 : 0 < b ∧ b ≤ 9200000000000000000 := by omega
  have hk := nrm_small (a := a) hb.1 hb.2 ha
  refine fn_of_run (args := [_, _]) 23 Tryz.func9 rfl rfl rfl fun cs => ?_
  have S := Own.start (X := nob) w
  refine r_seq ?_
  refine r_region ?_
  refine l_box S rfl rfl ?_
  intro b4 w1 S2 hl3
  refine l_box S2 rfl rfl ?_
  intro b8 w5 S6 hl7
  refine l_alloc S6 rfl Tryz.zeroValue28 rfl ?_
  intro b12 w9 S10 hl11
  refine l_x rfl (x_as rfl) ?_
  refine l_nil ?_
  refine r_seq ?_
  refine r_seq ?_
  refine r_region ?_
  refine l_x rfl (x_load rfl (ld_blk (S10.blk 1 rfl) Tryz.isAgg3 rfl)) ?_
  refine l_x rfl (x_eql rfl rfl) ?_
  refine l_x rfl (x_mv rfl) ?_
  refine l_splitd (d := 8) rfl (fun hg8 => ?_) (fun hg8 => ?_)
  · omega
  refine l_x rfl (x_load rfl (ld_blk (S10.blk 0 rfl) Tryz.isAgg3 rfl)) ?_
  refine l_call [] [] [_, _, _] rfl rfl Tryz.call23 rfl (c_within _ _ _ _) ?_
  rintro _ w13 ⟨rfl, hl15⟩
  have S14 := S10.step hl15
  refine l_x rfl (x_not rfl) ?_
  refine l_x rfl (x_pick_f rfl rfl) ?_
  refine l_x rfl (x_mv rfl) ?_
  refine l_split (d := 13) rfl (fun hg13 => ?_) (fun hg13 => ?_)
  · have hr9 := rng_iff.2 (show -1000000000000000 ≤ a ∧ a ≤ 1000000000000000 by omega); simp_all
  refine l_x rfl (x_load rfl (ld_blk (S14.blk 1 rfl) Tryz.isAgg3 rfl)) ?_
  refine l_call [] [] [_, _, _] rfl rfl Tryz.call23 rfl (c_within _ _ _ _) ?_
  rintro _ w16 ⟨rfl, hl18⟩
  have S17 := S14.step hl18
  refine l_x rfl (x_not rfl) ?_
  refine l_x rfl (x_pick_f rfl rfl) ?_
  refine l_nil ?_
  refine r_if rfl (fun hc17 => ?_) (fun hc17 => ?_)
  · have hr9 := rng_iff.2 (show -1000000000000000 ≤ b ∧ b ≤ 1000000000000000 by omega); simp_all
  refine r_skip ?_
  refine r_seq ?_
  refine r_region ?_
  refine l_x rfl (x_func rfl rfl) ?_
  refine l_call [] [] [_] rfl rfl Tryz.call24 rfl (c_ranged (blk b12 [.int .i64 0, .int .i64 0] 28) (fun r' => r' = blk b12 (encF (nrm a b)) 28) (fun _ => False) 25 [.pointer (some ⟨b4, 0, none⟩), .pointer (some ⟨b8, 0, none⟩), .pointer (some ⟨b12, 0, none⟩)] _ Tryz.call25 (fun w1 S1 hk1 => ((c_Norm1 a b b4 b8 b12 _ _ hA9 hB9 hk (fun hq => S17.dj 0 2 _ _ rfl rfl (by decide) _ rfl hq) (fun hq => S17.dj 1 2 _ _ rfl rfl (by decide) _ rfl hq) w1 ((S17.blk 0 rfl).keep hk1 (fun hq => S17.dj 0 2 _ _ rfl rfl (by decide) _ rfl hq)) ((S17.blk 1 rfl).keep hk1 (fun hq => S17.dj 1 2 _ _ rfl rfl (by decide) _ rfl hq)) S1).mono fun _ _ h => show _ from ⟨_, rfl, h⟩).cp) (S17.lend 2 rfl)) ?_
  rintro _ w19 (⟨rfl, r2019, rfl, hb2019⟩ | ⟨rfl, r2019, hF2019, hb2019⟩)
  · skip
    have S20 := S17.back 2 rfl hb2019
    refine l_x rfl (x_as rfl) ?_
    refine l_nil ?_
    refine r_seq ?_
    refine r_region ?_
    refine l_x rfl (x_load rfl (ld_blks (S20.blk 2 rfl) Tryz.isAgg28 Tryz.sizeOf28 rfl rfl)) ?_
    refine l_x rfl (x_mv rfl) ?_
    refine l_stores (vs := [_, _]) S20 2 rfl rfl rfl rfl (ones_cons rfl (ones_cons rfl ones_nil)) Tryz.sizeOf28 (by first | exact Nat.le_refl _ | simp) (splice_all rfl) ?_
    intro w21 S22 hk23
    refine l_x rfl (x_as rfl) ?_
    refine l_nil ?_
    refine r_ret (rs := [.cell 4 28, .tmp 5]) [_, _] Tryz.func9 rfl ⟨⟨_, rfl, (ld_blks (S22.blk 2 rfl) Tryz.isAgg28 Tryz.sizeOf28 rfl rfl)⟩, rfl, trivial⟩ ?_
    exact ⟨rfl, S22.le⟩
  exact hF2019.elim

/-- (couchant/share.frac).plus. -/
theorem c_plus (x y : Fr) (hpb : (-9200000000000000000 ≤ x.num * y.den + y.num * x.den ∧ x.num * y.den + y.num * x.den ≤ 9200000000000000000) ∧ (-9200000000000000000 ≤ x.num * y.den ∧ x.num * y.den ≤ 9200000000000000000) ∧ (-9200000000000000000 ≤ y.num * x.den ∧ y.num * x.den ≤ 9200000000000000000) ∧ 0 < x.den * y.den ∧ x.den * y.den ≤ 9200000000000000000) (w : World) :
    Cp Tryz.prog 37 #[.agg (encF x).toArray, .agg (encF y).toArray] w (fun v w' => v = .agg (encF (plus x y)).toArray ∧ okF (plus x y) = true ∧ Le w w') (fun v w' => v = (.iface 99 (.agg #[])) ∧ okF (plus x y) = false ∧ Le w w') := by
  refine fn_of_runP (args := [_, _]) 22 Tryz.func37 rfl rfl rfl fun cs => ?_
  have S := Own.start (X := nob) w
  refine r_seq ?_
  refine r_region ?_
  refine l_box S rfl rfl ?_
  intro b4 w1 S2 hl3
  refine l_box S2 rfl rfl ?_
  intro b8 w5 S6 hl7
  refine l_alloc S6 rfl Tryz.zeroValue66 rfl ?_
  intro b12 w9 S10 hl11
  refine l_nil ?_
  refine r_seq ?_
  refine r_region ?_
  refine l_x rfl (x_fieldAddr rfl Tryz.runUnderlying66 rfl Tryz.sizeOf3 (by decide)) ?_
  refine l_x rfl (x_load rfl (ld_blk (S10.blk 0 rfl) Tryz.isAgg3 rfl)) ?_
  refine l_x rfl (x_fieldAddr rfl Tryz.runUnderlying66 rfl Tryz.sizeOf3 (by decide)) ?_
  refine l_x rfl (x_load rfl (ld_blk (S10.blk 1 rfl) Tryz.isAgg3 rfl)) ?_
  refine l_x rfl (x_mul rfl rfl (by omega)) ?_
  refine l_x rfl (x_fieldAddr rfl Tryz.runUnderlying66 rfl Tryz.sizeOf3 (by decide)) ?_
  refine l_x rfl (x_load rfl (ld_blk (S10.blk 1 rfl) Tryz.isAgg3 rfl)) ?_
  refine l_x rfl (x_fieldAddr rfl Tryz.runUnderlying66 rfl Tryz.sizeOf3 (by decide)) ?_
  refine l_x rfl (x_load rfl (ld_blk (S10.blk 0 rfl) Tryz.isAgg3 rfl)) ?_
  refine l_x rfl (x_mul rfl rfl (by omega)) ?_
  refine l_x rfl (x_add rfl rfl (by omega)) ?_
  refine l_x rfl (x_fieldAddr rfl Tryz.runUnderlying66 rfl Tryz.sizeOf3 (by decide)) ?_
  refine l_x rfl (x_load rfl (ld_blk (S10.blk 0 rfl) Tryz.isAgg3 rfl)) ?_
  refine l_x rfl (x_fieldAddr rfl Tryz.runUnderlying66 rfl Tryz.sizeOf3 (by decide)) ?_
  refine l_x rfl (x_load rfl (ld_blk (S10.blk 1 rfl) Tryz.isAgg3 rfl)) ?_
  refine l_x rfl (x_mul rfl rfl (by omega)) ?_
  refine l_callP [] [] [_, _] rfl rfl Tryz.call26 rfl (c_norm _ _ hpb.1 hpb.2.2.2 _) ?_ ?_
  · skip
    rintro _ w13 ⟨rfl, hok9, hl15⟩
    have S14 := S10.step hl15
    refine l_stores (vs := [_, _]) S14 2 rfl rfl rfl rfl (ones_cons rfl (ones_cons rfl ones_nil)) Tryz.sizeOf66 (by first | exact Nat.le_refl _ | simp) (splice_all rfl) ?_
    intro w16 S17 hk18
    refine l_nil ?_
    refine p_ret (rs := [.cell 4 66]) [_] Tryz.func37 rfl ⟨⟨_, rfl, (ld_blks (S17.blk 2 rfl) Tryz.isAgg66 Tryz.sizeOf66 rfl rfl)⟩, trivial⟩ ?_
    exact ⟨rfl, hok9, S17.le⟩
  rintro _ w19 k ⟨rfl, hok9, hl21⟩
  have S20 := S10.step hl21
  exact leaveU_panic Tryz.func37 ⟨rfl, hok9, S20.le⟩

/-- (couchant/share.frac).minus. -/
theorem c_minus (x y : Fr) (hx : validF x = true) (hy : validF y = true) (w : World) :
    Cp Tryz.prog 55 #[.agg (encF x).toArray, .agg (encF y).toArray] w (fun v w' => v = .agg (encF (minus x y)).toArray ∧ okF (minus x y) = true ∧ Le w w') (fun v w' => v = (.iface 99 (.agg #[])) ∧ okF (minus x y) = false ∧ Le w w') := by
  obtain ⟨hpb, hyn⟩ := minus_bd hx hy
  refine fn_of_runP (args := [_, _]) 13 Tryz.func55 rfl rfl rfl fun cs => ?_
  have S := Own.start (X := nob) w
  refine r_seq ?_
  refine r_region ?_
  refine l_box S rfl rfl ?_
  intro b4 w1 S2 hl3
  refine l_box S2 rfl rfl ?_
  intro b8 w5 S6 hl7
  refine l_alloc S6 rfl Tryz.zeroValue66 rfl ?_
  intro b12 w9 S10 hl11
  refine l_nil ?_
  refine r_seq ?_
  refine r_region ?_
  refine l_x rfl (x_load rfl (ld_blks (S10.blk 0 rfl) Tryz.isAgg66 Tryz.sizeOf66 rfl rfl)) ?_
  refine l_x rfl (x_fieldAddr rfl Tryz.runUnderlying66 rfl Tryz.sizeOf3 (by decide)) ?_
  refine l_x rfl (x_load rfl (ld_blk (S10.blk 1 rfl) Tryz.isAgg3 rfl)) ?_
  refine l_x rfl (x_neg rfl (by omega)) ?_
  refine l_x rfl (x_fieldAddr rfl Tryz.runUnderlying66 rfl Tryz.sizeOf3 (by decide)) ?_
  refine l_x rfl (x_load rfl (ld_blk (S10.blk 1 rfl) Tryz.isAgg3 rfl)) ?_
  refine l_x rfl (x_buildS (out := [_, _]) (ss := [1, 1]) Tryz.zeroValue66 rfl Tryz.runUnderlying66 ⟨Tryz.sizeOf3, Tryz.sizeOf3, trivial⟩ (fill_cons rfl rfl rfl (Nat.le_of_ble_eq_true rfl) (fill_cons rfl rfl rfl (Nat.le_of_ble_eq_true rfl) fill_nil))) ?_
  refine l_callP [] [] [_, _] rfl rfl Tryz.call37 rfl (c_plus x ⟨-y.num, y.den⟩ hpb _) ?_ ?_
  · skip
    rintro _ w13 ⟨rfl, hok9, hl15⟩
    have S14 := S10.step hl15
    refine l_stores (vs := [_, _]) S14 2 rfl rfl rfl rfl (ones_cons rfl (ones_cons rfl ones_nil)) Tryz.sizeOf66 (by first | exact Nat.le_refl _ | simp) (splice_all rfl) ?_
    intro w16 S17 hk18
    refine l_nil ?_
    refine p_ret (rs := [.cell 4 66]) [_] Tryz.func55 rfl ⟨⟨_, rfl, (ld_blks (S17.blk 2 rfl) Tryz.isAgg66 Tryz.sizeOf66 rfl rfl)⟩, trivial⟩ ?_
    exact ⟨rfl, hok9, S17.le⟩
  rintro _ w19 k ⟨rfl, hok9, hl21⟩
  have S20 := S10.step hl21
  exact leaveU_panic Tryz.func55 ⟨rfl, hok9, S20.le⟩

end Go.Proofs

/-
  Contracts of functions of the program: each by symbolic execution of its text.
-/
namespace Go.Proofs
open Go Go.Vk Go.Vk.Flow

open Go.Vk.Deed Go.Vk.Share

/-- couchant/share.valid$1. -/
theorem c_valid1 (x : Fr) (w : World) :
    Cl Tryz.prog 63 #[.agg (encF x).toArray] w fun v w' => v = .bool (!validF x) ∧ Le w w' := by
  refine fn_of_run (args := [_]) 21 Tryz.func63 rfl rfl rfl fun cs => ?_
  have S := Own.start (X := nob) w
  refine r_seq ?_
  refine r_region ?_
  refine l_box S rfl rfl ?_
  intro b4 w1 S2 hl3
  refine l_x rfl (x_as rfl) ?_
  refine l_nil ?_
  refine r_seq ?_
  refine r_region ?_
  refine l_x rfl (x_fieldAddr rfl Tryz.runUnderlying28 rfl Tryz.sizeOf3 (by decide)) ?_
  refine l_x rfl (x_load rfl (ld_blk (S2.blk 0 rfl) Tryz.isAgg3 rfl)) ?_
  refine l_call [] [] [_, _, _] rfl rfl Tryz.call23 rfl (c_within _ _ _ _) ?_
  rintro _ w5 ⟨rfl, hl7⟩
  have S6 := S2.step hl7
  refine l_x rfl (x_not rfl) ?_
  refine l_x rfl (x_mv rfl) ?_
  refine l_split (d := 7) rfl (fun hg7 => ?_) (fun hg7 => ?_)
  · skip
    refine l_pass rfl ?_
    refine l_pass rfl ?_
    refine l_pass rfl ?_
    refine l_pass rfl ?_
    refine l_x rfl (x_pick_t rfl rfl) ?_
    refine l_x rfl (x_mv rfl) ?_
    refine l_pass rfl ?_
    refine l_pass rfl ?_
    refine l_pass rfl ?_
    refine l_pass rfl ?_
    refine l_pass rfl ?_
    refine l_pass rfl ?_
    refine l_x rfl (x_pick_t rfl rfl) ?_
    refine l_x rfl (x_as rfl) ?_
    refine l_nil ?_
    refine r_ret (rs := [.tmp 2]) [_] Tryz.func63 rfl ⟨rfl, trivial⟩ ?_
    exact ⟨congrArg Value.bool (by unfold validF; simp_all), S6.le⟩
  refine l_x rfl (x_fieldAddr rfl Tryz.runUnderlying28 rfl Tryz.sizeOf3 (by decide)) ?_
  refine l_x rfl (x_load rfl (ld_blk (S6.blk 0 rfl) Tryz.isAgg3 rfl)) ?_
  refine l_call [] [] [_, _, _] rfl rfl Tryz.call23 rfl (c_within _ _ _ _) ?_
  rintro _ w8 ⟨rfl, hl10⟩
  have S9 := S6.step hl10
  refine l_x rfl (x_not rfl) ?_
  refine l_x rfl (x_pick_f rfl rfl) ?_
  refine l_x rfl (x_mv rfl) ?_
  refine l_split (d := 13) rfl (fun hg13 => ?_) (fun hg13 => ?_)
  · skip
    refine l_pass rfl ?_
    refine l_pass rfl ?_
    refine l_pass rfl ?_
    refine l_pass rfl ?_
    refine l_pass rfl ?_
    refine l_pass rfl ?_
    refine l_x rfl (x_pick_t rfl rfl) ?_
    refine l_x rfl (x_as rfl) ?_
    refine l_nil ?_
    refine r_ret (rs := [.tmp 2]) [_] Tryz.func63 rfl ⟨rfl, trivial⟩ ?_
    exact ⟨congrArg Value.bool (by unfold validF; simp_all), S9.le⟩
  refine l_x rfl (x_fieldAddr rfl Tryz.runUnderlying28 rfl Tryz.sizeOf3 (by decide)) ?_
  refine l_x rfl (x_load rfl (ld_blk (S9.blk 0 rfl) Tryz.isAgg3 rfl)) ?_
  refine l_x rfl (x_fieldAddr rfl Tryz.runUnderlying28 rfl Tryz.sizeOf3 (by decide)) ?_
  refine l_x rfl (x_load rfl (ld_blk (S9.blk 0 rfl) Tryz.isAgg3 rfl)) ?_
  refine l_call [] [] [_, _] rfl rfl Tryz.call58 rfl (c_divisor _ _ (by have := rng_iff.1 (show rng x.num (-1000000000000) 1000000000000 = true by simpa using hg13); omega) (by have := rng_iff.1 (show rng x.den 1 1000000 = true by simpa using hg7); omega) _) ?_
  rintro _ w11 ⟨rfl, hl13⟩
  have S12 := S9.step hl13
  refine l_x rfl (x_neq rfl rfl) ?_
  refine l_x rfl (x_pick_f rfl rfl) ?_
  refine l_x rfl (x_as rfl) ?_
  refine l_nil ?_
  refine r_ret (rs := [.tmp 2]) [_] Tryz.func63 rfl ⟨rfl, trivial⟩ ?_
  exact ⟨congrArg Value.bool (by unfold validF; simp_all), S12.le⟩

/-- slices.IndexFunc[[]couchant/api.Frac,couchant/api.Frac]. -/
theorem c_IndexFuncFrac (va : Value) (l : List Fr) (p : Fr → Bool) (kf : Nat) (caps : List Value) (hmx : l.length ≤ 9223372036854775807) (w : World) (hA : Rd EF w va l) (he : ∀ args w, (callFunc kf args).run Tryz.prog w = .ok (.enter kf args) w)
    (hf : ∀ x ∈ l, ∀ w1, Le w w1 → Cl Tryz.prog kf ([Value.agg (encF x).toArray] ++ caps).toArray w1 fun v w2 => v = .bool (p x) ∧ Le w1 w2) :
    Cl Tryz.prog 93 #[va, .func (.func kf) #[] caps.toArray] w fun v w' => v = .int .i64 (idx p l) ∧ Le w w' := by
  refine fn_of_run (args := [_, _]) 19 Tryz.func93 rfl rfl rfl fun cs => ?_
  have S := Own.start (X := nob) w
  refine r_seq ?_
  refine r_region ?_
  refine l_x rfl (x_as rfl) ?_
  refine l_nil ?_
  refine r_seq ?_
  refine r_seq ?_
  refine r_region ?_
  refine l_x rfl (x_mv rfl) ?_
  refine l_x rfl (x_len (hA.le S.le) rfl Tryz.runUnderlying34) ?_
  refine l_x rfl (x_mv rfl) ?_
  refine l_nil ?_
  refine r_block ?_
  refine r_loop (G := Nat) (fun i => l.length - i) (fun i => [(0, va), (1, .func (.func kf) #[] caps.toArray), (8, .int .i64 i), (7, .int .i64 l.length)]) (fun i w' => (i ≤ l.length) ∧ (∀ x ∈ l.take i, p x = false) ∧ Own nob w w' []) 0 ⟨rfl, rfl, rfl, rfl, trivial⟩ ⟨Nat.zero_le _, by simp, S⟩ ?_
  rintro i ρ w1 ⟨hi, hno, S1⟩ IH
  refine r_seq ?_
  refine r_region ?_
  refine l_x rfl (x_lss rfl rfl) ?_
  refine l_nil ?_
  refine r_seq ?_
  refine r_ifd rfl (fun hc9 => ?_) (fun hc9 => ?_)
  · skip
    obtain ⟨a, ha⟩ : ∃ a, l[i]? = some a := ⟨_, List.getElem?_eq_getElem (by omega)⟩
    refine r_skip ?_
    refine r_seq ?_
    refine r_block ?_
    refine r_seq ?_
    refine r_region ?_
    refine l_x rfl (x_mv rfl) ?_
    refine l_x rfl (x_as rfl) ?_
    refine l_nil ?_
    refine r_seq ?_
    refine r_region ?_
    refine l_x rfl (x_mv rfl) ?_
    refine l_x rfl (x_mv rfl) ?_
    refine l_x rfl (x_mv rfl) ?_
    refine l_index EF rfl (hA.le S1.le) rfl rfl Tryz.runUnderlying34 Tryz.sizeOf28 (by omega) (by first | assumption | exact List.getElem?_eq_getElem (by omega)) ?_
    intro b1 o2 hat3 row4
    refine l_x rfl (x_load rfl (ld_row Tryz.isAgg28 Tryz.sizeOf28 rfl row4)) ?_
    refine l_call [] caps ([_] ++ caps) rfl rfl he rfl (hf _ (List.mem_of_getElem? ha) _ S1.le) ?_
    rintro _ w5 ⟨rfl, hl7⟩
    have S6 := S1.step hl7
    refine l_nil ?_
    refine r_if rfl (fun hc16 => ?_) (fun hc16 => ?_)
    · skip
      refine r_seq ?_
      refine r_region ?_
      refine l_x rfl (x_mv rfl) ?_
      refine l_x rfl (x_as rfl) ?_
      refine l_nil ?_
      refine r_ret (rs := [.tmp 4]) [_] Tryz.func93 rfl ⟨rfl, trivial⟩ ?_
      exact ⟨congrArg (Value.int .i64) (idx_at ha hc16 hno).symm, S6.le⟩
    have hno' : ∀ x ∈ l.take (i + 1), p x = false := by
      intro x hx
      rw [List.take_add_one, ha] at hx
      rcases List.mem_append.1 hx with h | h
      · exact hno x h
      simp at h; subst h; exact hc16
    refine r_skip ?_
    refine r_inBlock ?_
    refine r_region ?_
    refine l_x rfl (x_add rfl rfl (by omega)) ?_
    refine l_x rfl (x_mv rfl) ?_
    refine l_nil ?_
    exact IH (i + 1) _ _ (by omega) ⟨rfl, rfl, rfl, rfl, trivial⟩ ⟨by omega, hno', S6⟩
  have hi : i = l.length := by omega
  subst hi
  refine r_exit rfl ?_
  refine r_seq ?_
  refine r_region ?_
  refine l_x rfl (x_as rfl) ?_
  refine l_nil ?_
  refine r_ret (rs := [.tmp 4]) [_] Tryz.func93 rfl ⟨rfl, trivial⟩ ?_
  exact ⟨congrArg (Value.int .i64) (idx_none (by rwa [List.take_length] at hno)).symm, S1.le⟩

/-- slices.ContainsFunc[[]couchant/api.Frac,couchant/api.Frac]. -/
theorem c_ContainsFuncFrac (va : Value) (l : List Fr) (p : Fr → Bool) (kf : Nat) (caps : List Value) (hmx : l.length ≤ 9223372036854775807) (w : World) (hA : Rd EF w va l) (he : ∀ args w, (callFunc kf args).run Tryz.prog w = .ok (.enter kf args) w)
    (hf : ∀ x ∈ l, ∀ w1, Le w w1 → Cl Tryz.prog kf ([Value.agg (encF x).toArray] ++ caps).toArray w1 fun v w2 => v = .bool (p x) ∧ Le w1 w2) :
    Cl Tryz.prog 62 #[va, .func (.func kf) #[] caps.toArray] w fun v w' => v = .bool (l.any p) ∧ Le w w' := by
  refine fn_of_run (args := [_, _]) 9 Tryz.func62 rfl rfl rfl fun cs => ?_
  have S := Own.start (X := nob) w
  refine r_seq ?_
  refine r_region ?_
  refine l_x rfl (x_as rfl) ?_
  refine l_nil ?_
  refine r_seq ?_
  refine r_region ?_
  refine l_x rfl (x_mv rfl) ?_
  refine l_x rfl (x_mv rfl) ?_
  refine l_call [] [] [_, _] rfl rfl Tryz.call93 rfl (c_IndexFuncFrac _ _ p kf caps hmx _ (hA.le S.le) he (fun x hx w1 h1 => hf x hx w1 (S.le.trans h1))) ?_
  rintro _ w1 ⟨rfl, hl3⟩
  have S2 := S.step hl3
  refine l_x rfl (x_geq rfl rfl) ?_
  refine l_x rfl (x_as rfl) ?_
  refine l_nil ?_
  refine r_ret (rs := [.tmp 4]) [_] Tryz.func62 rfl ⟨rfl, trivial⟩ ?_
  exact ⟨congrArg Value.bool (Bool.eq_iff_iff.2 (by rw [decide_eq_true_iff]; exact idx_ge p _)), S2.le⟩

/-- couchant/share.valid. -/
theorem c_valid (va : Value) (l : List Fr) (hm : l.length ≤ 9223372036854775807) (w : World) (hL : Rd EF w va l) :
    Cl Tryz.prog 31 #[va] w fun v w' => v = .bool (l.all validF) ∧ Le w w' := by
  refine fn_of_run (args := [_]) 6 Tryz.func31 rfl rfl rfl fun cs => ?_
  have S := Own.start (X := nob) w
  refine r_seq ?_
  refine r_region ?_
  refine l_x rfl (x_as rfl) ?_
  refine l_nil ?_
  refine r_seq ?_
  refine r_region ?_
  refine l_x rfl (x_mv rfl) ?_
  refine l_call [] [] [_, _] rfl rfl Tryz.call62 rfl (c_ContainsFuncFrac _ l (fun x => !validF x) 63 [] hm _ (hL.le S.le) Tryz.call63 (fun x _ w1 _ => c_valid1 x w1)) ?_
  rintro _ w1 ⟨rfl, hl3⟩
  have S2 := S.step hl3
  refine l_x rfl (x_not rfl) ?_
  refine l_x rfl (x_as rfl) ?_
  refine l_nil ?_
  refine r_ret (rs := [.tmp 2]) [_] Tryz.func31 rfl ⟨rfl, trivial⟩ ?_
  exact ⟨congrArg Value.bool (all_not_any l validF), S2.le⟩

/-- couchant/share.done$1. -/
theorem c_frdone1 (x y : Fr) (bf bb bo : Nat) (z1 z2 : Value) (hx : validF x = true) (hy : validF y = true) (hna : bf ≠ bo) (hnb : bb ≠ bo) (w : World) (hF : Blk w bf [.func (.func 55) #[.agg (encF x).toArray] #[]] 75) (hB : Blk w bb (encF y) 28) (S0 : Own (· = bo) w w [blk bo [z1, z2] 28]) :
    Cp Tryz.prog 94 #[.pointer (some ⟨bf, 0, none⟩), .pointer (some ⟨bb, 0, none⟩), .pointer (some ⟨bo, 0, none⟩)] w (fun _ w' => okF (minus x y) = true ∧ Own (· = bo) w w' [blk bo (encF (minus x y)) 28]) (fun v w' => v = (.iface 99 (.agg #[])) ∧ okF (minus x y) = false ∧ Own (· = bo) w w' [blk bo [z1, z2] 28]) := by
  refine fn_of_runP (args := [_, _, _]) 6 Tryz.func94 rfl rfl rfl fun cs => ?_
  have S := S0
  refine r_region ?_
  refine l_x rfl (x_load rfl (ld_blk (hF.keep S.keep hna) Tryz.isAgg75 rfl)) ?_
  refine l_x rfl (x_load rfl (ld_blks (hB.keep S.keep hnb) Tryz.isAgg28 Tryz.sizeOf28 rfl rfl)) ?_
  refine l_callP [_] [] [_, _] rfl rfl Tryz.call55 rfl (c_minus x y hx hy _) ?_ ?_
  · skip
    rintro _ w1 ⟨rfl, hok9, hl3⟩
    have S2 := S.step hl3
    refine l_stores S2 0 rfl rfl rfl rfl (EF.one _) Tryz.sizeOf28 (by first | exact Nat.le_refl _ | simp) (splice_all rfl) ?_
    intro w4 S5 hk6
    refine l_nil ?_
    refine p_end (rs := []) [] Tryz.func94 rfl trivial ?_
    exact ⟨hok9, S5⟩
  rintro _ w7 k ⟨rfl, hok9, hl9⟩
  have S8 := S.step hl9
  exact leaveU_panic Tryz.func94 ⟨rfl, hok9, S8⟩

set_option maxHeartbeats 1000000 in
/-- couchant/share.done. -/
theorem c_frdone (x y : Fr) (hx : validF x = true) (hy : validF y = true) (w : World) :
    Cl Tryz.prog 64 #[.agg (encF x).toArray, .agg (encF y).toArray, .func (.func 55) #[.agg (encF x).toArray] #[]] w fun v w' => (v = .tuple #[.agg (encF (minus x y)).toArray, .int .i64 0] ∧ okF (minus x y) = true ∧ Le w w') ∨ (v = .tuple #[.agg (encF ⟨0, 0⟩).toArray, .int .i64 2] ∧ okF (minus x y) = false ∧ Le w w') := by
  refine fn_of_run (args := [_, _, _]) 18 Tryz.func64 rfl rfl rfl fun cs => ?_
  have S := Own.start (X := nob) w
  refine r_seq ?_
  refine r_region ?_
  refine l_box S rfl rfl ?_
  intro b4 w1 S2 hl3
  refine l_box S2 rfl rfl ?_
  intro b8 w5 S6 hl7
  refine l_box S6 rfl rfl ?_
  intro b12 w9 S10 hl11
  refine l_alloc S10 rfl Tryz.zeroValue28 rfl ?_
  intro b16 w13 S14 hl15
  refine l_x rfl (x_as rfl) ?_
  refine l_nil ?_
  refine r_seq ?_
  refine r_seq ?_
  refine r_region ?_
  refine l_x rfl (x_load rfl (ld_blks (S14.blk 0 rfl) Tryz.isAgg28 Tryz.sizeOf28 rfl rfl)) ?_
  refine l_x rfl (x_load rfl (ld_blks (S14.blk 1 rfl) Tryz.isAgg28 Tryz.sizeOf28 rfl rfl)) ?_
  refine l_buildSlice EF [x, y] S14 rfl Tryz.runUnderlying34 Tryz.sizeOf28 Tryz.zeroValue28 rfl ⟨rfl, rfl, rfl, rfl, trivial⟩ (Nat.le_of_ble_eq_true rfl) ?_
  intro v20 w17 S18 hl19
  refine l_call [] [] [_] rfl rfl Tryz.call31 rfl (c_valid _ _ (by first | omega | exact Nat.le_of_ble_eq_true rfl) _ (vec_rd (S18.at 4 rfl))) ?_
  rintro _ w21 ⟨rfl, hl23⟩
  have S22 := S18.step hl23
  refine l_x rfl (x_not rfl) ?_
  refine l_nil ?_
  refine r_if rfl (fun hc12 => ?_) (fun hc12 => ?_)
  · simp_all
  refine r_skip ?_
  refine r_seq ?_
  refine r_region ?_
  refine l_x rfl (x_func rfl rfl) ?_
  refine l_call [] [] [_] rfl rfl Tryz.call24 rfl (c_ranged (blk b16 [.int .i64 0, .int .i64 0] 28) (fun r' => okF (minus x y) = true ∧ r' = blk b16 (encF (minus x y)) 28) (fun r' => okF (minus x y) = false ∧ r' = blk b16 [.int .i64 0, .int .i64 0] 28) 94 [.pointer (some ⟨b12, 0, none⟩), .pointer (some ⟨b8, 0, none⟩), .pointer (some ⟨b16, 0, none⟩)] _ Tryz.call94 (fun w1 S1 hk1 => (c_frdone1 x y b12 b8 b16 _ _ hx hy (fun hq => S22.dj 2 3 _ _ rfl rfl (by decide) _ rfl hq) (fun hq => S22.dj 1 3 _ _ rfl rfl (by decide) _ rfl hq) w1 ((S22.blk 2 rfl).keep hk1 (fun hq => S22.dj 2 3 _ _ rfl rfl (by decide) _ rfl hq)) ((S22.blk 1 rfl).keep hk1 (fun hq => S22.dj 1 3 _ _ rfl rfl (by decide) _ rfl hq)) S1).mono (fun _ _ h => show _ from ⟨_, ⟨h.1, rfl⟩, h.2⟩) fun _ _ h => show _ from ⟨h.1, _, ⟨h.2.1, rfl⟩, h.2.2⟩) (S22.lend 3 rfl)) ?_
  rintro _ w24 (⟨rfl, r1524, ⟨hok9, rfl⟩, hb1524⟩ | ⟨rfl, r1524, ⟨hok9, rfl⟩, hb1524⟩)
  · skip
    have S25 := S22.back 3 rfl hb1524
    refine l_x rfl (x_as rfl) ?_
    refine l_nil ?_
    refine r_seq ?_
    refine r_region ?_
    refine l_x rfl (x_load rfl (ld_blks (S25.blk 3 rfl) Tryz.isAgg28 Tryz.sizeOf28 rfl rfl)) ?_
    refine l_x rfl (x_mv rfl) ?_
    refine l_stores (vs := [_, _]) S25 3 rfl rfl rfl rfl (ones_cons rfl (ones_cons rfl ones_nil)) Tryz.sizeOf28 (by first | exact Nat.le_refl _ | simp) (splice_all rfl) ?_
    intro w26 S27 hk28
    refine l_x rfl (x_as rfl) ?_
    refine l_nil ?_
    refine r_ret (rs := [.cell 6 28, .tmp 7]) [_, _] Tryz.func64 rfl ⟨⟨_, rfl, (ld_blks (S27.blk 3 rfl) Tryz.isAgg28 Tryz.sizeOf28 rfl rfl)⟩, rfl, trivial⟩ ?_
    exact .inl ⟨rfl, hok9, S27.le⟩
  have S29 := S22.back 3 rfl hb1524
  refine l_x rfl (x_as rfl) ?_
  refine l_nil ?_
  refine r_seq ?_
  refine r_region ?_
  refine l_x rfl (x_load rfl (ld_blks (S29.blk 3 rfl) Tryz.isAgg28 Tryz.sizeOf28 rfl rfl)) ?_
  refine l_x rfl (x_mv rfl) ?_
  refine l_stores (vs := [_, _]) S29 3 rfl rfl rfl rfl (ones_cons rfl (ones_cons rfl ones_nil)) Tryz.sizeOf28 (by first | exact Nat.le_refl _ | simp) (splice_all rfl) ?_
  intro w30 S31 hk32
  refine l_x rfl (x_as rfl) ?_
  refine l_nil ?_
  refine r_ret (rs := [.cell 6 28, .tmp 7]) [_, _] Tryz.func64 rfl ⟨⟨_, rfl, (ld_blks (S31.blk 3 rfl) Tryz.isAgg28 Tryz.sizeOf28 rfl rfl)⟩, rfl, trivial⟩ ?_
  exact .inr ⟨rfl, hok9, S31.le⟩

/-- couchant/share.Sub. -/
theorem c_Sub (x y : Fr) (hx : validF x = true) (hy : validF y = true) (w : World) :
    Cl Tryz.prog 33 #[.agg (encF x).toArray, .agg (encF y).toArray] w fun v w' => (v = .tuple #[.agg (encF (minus x y)).toArray, .int .i64 0] ∧ okF (minus x y) = true ∧ Le w w') ∨ (v = .tuple #[.agg (encF ⟨0, 0⟩).toArray, .int .i64 2] ∧ okF (minus x y) = false ∧ Le w w') := by
  refine fn_of_run (args := [_, _]) 13 Tryz.func33 rfl rfl rfl fun cs => ?_
  have S := Own.start (X := nob) w
  refine r_seq ?_
  refine r_region ?_
  refine l_box S rfl rfl ?_
  intro b4 w1 S2 hl3
  refine l_box S2 rfl rfl ?_
  intro b8 w5 S6 hl7
  refine l_alloc S6 rfl Tryz.zeroValue28 rfl ?_
  intro b12 w9 S10 hl11
  refine l_x rfl (x_as rfl) ?_
  refine l_nil ?_
  refine r_seq ?_
  refine r_region ?_
  refine l_x rfl (x_load rfl (ld_blks (S10.blk 0 rfl) Tryz.isAgg28 Tryz.sizeOf28 rfl rfl)) ?_
  refine l_x rfl (x_load rfl (ld_blks (S10.blk 1 rfl) Tryz.isAgg28 Tryz.sizeOf28 rfl rfl)) ?_
  refine l_x rfl (x_load rfl (ld_blks (S10.blk 0 rfl) Tryz.isAgg28 Tryz.sizeOf28 rfl rfl)) ?_
  refine l_x rfl (x_func rfl rfl) ?_
  refine l_call [] [] [_, _, _] rfl rfl Tryz.call64 rfl (c_frdone x y hx hy _) ?_
  rintro _ w13 (⟨rfl, hok9, hl1013⟩ | ⟨rfl, hok9, hl1013⟩)
  · skip
    have S14 := S10.step hl1013
    refine l_x rfl (x_extract rfl rfl) ?_
    refine l_x rfl (x_extract rfl rfl) ?_
    refine l_stores S14 2 rfl rfl rfl rfl (EF.one _) Tryz.sizeOf28 (by first | exact Nat.le_refl _ | simp) (splice_all rfl) ?_
    intro w15 S16 hk17
    refine l_x rfl (x_as rfl) ?_
    refine l_nil ?_
    refine r_ret (rs := [.cell 4 28, .tmp 5]) [_, _] Tryz.func33 rfl ⟨⟨_, rfl, (ld_blks (S16.blk 2 rfl) Tryz.isAgg28 Tryz.sizeOf28 rfl rfl)⟩, rfl, trivial⟩ ?_
    exact .inl ⟨rfl, hok9, S16.le⟩
  have S18 := S10.step hl1013
  refine l_x rfl (x_extract rfl rfl) ?_
  refine l_x rfl (x_extract rfl rfl) ?_
  refine l_stores S18 2 rfl rfl rfl rfl (EF.one _) Tryz.sizeOf28 (by first | exact Nat.le_refl _ | simp) (splice_all rfl) ?_
  intro w19 S20 hk21
  refine l_x rfl (x_as rfl) ?_
  refine l_nil ?_
  refine r_ret (rs := [.cell 4 28, .tmp 5]) [_, _] Tryz.func33 rfl ⟨⟨_, rfl, (ld_blks (S20.blk 2 rfl) Tryz.isAgg28 Tryz.sizeOf28 rfl rfl)⟩, rfl, trivial⟩ ?_
  exact .inr ⟨rfl, hok9, S20.le⟩

end Go.Proofs

/-
  Contracts of functions of the program: each by symbolic execution of its text.
-/
namespace Go.Proofs
open Go Go.Vk Go.Vk.Flow

open Go.Vk.Deed Go.Vk.Share

/-- couchant/share.orders$1. -/
theorem c_orders1 (x y : Fr) (hcb : (-9200000000000000000 ≤ x.num * y.den ∧ x.num * y.den ≤ 9200000000000000000) ∧ (-9200000000000000000 ≤ y.num * x.den ∧ y.num * x.den ≤ 9200000000000000000)) (w : World) :
    Cl Tryz.prog 95 #[.agg (encF x).toArray, .agg (encF y).toArray] w fun v w' => v = .int .i64 (cmpF x y) ∧ Le w w' := by
  refine fn_of_run (args := [_, _]) 16 Tryz.func95 rfl rfl rfl fun cs => ?_
  have S := Own.start (X := nob) w
  refine r_seq ?_
  refine r_region ?_
  refine l_box S rfl rfl ?_
  intro b4 w1 S2 hl3
  refine l_box S2 rfl rfl ?_
  intro b8 w5 S6 hl7
  refine l_x rfl (x_as rfl) ?_
  refine l_nil ?_
  refine r_seq ?_
  refine r_region ?_
  refine l_x rfl (x_fieldAddr rfl Tryz.runUnderlying66 rfl Tryz.sizeOf3 (by decide)) ?_
  refine l_x rfl (x_load rfl (ld_blk (S6.blk 0 rfl) Tryz.isAgg3 rfl)) ?_
  refine l_x rfl (x_fieldAddr rfl Tryz.runUnderlying66 rfl Tryz.sizeOf3 (by decide)) ?_
  refine l_x rfl (x_load rfl (ld_blk (S6.blk 1 rfl) Tryz.isAgg3 rfl)) ?_
  refine l_x rfl (x_mul rfl rfl (by omega)) ?_
  refine l_x rfl (x_fieldAddr rfl Tryz.runUnderlying66 rfl Tryz.sizeOf3 (by decide)) ?_
  refine l_x rfl (x_load rfl (ld_blk (S6.blk 1 rfl) Tryz.isAgg3 rfl)) ?_
  refine l_x rfl (x_fieldAddr rfl Tryz.runUnderlying66 rfl Tryz.sizeOf3 (by decide)) ?_
  refine l_x rfl (x_load rfl (ld_blk (S6.blk 0 rfl) Tryz.isAgg3 rfl)) ?_
  refine l_x rfl (x_mul rfl rfl (by omega)) ?_
  refine l_call [] [] [_, _] rfl rfl Tryz.call30 rfl (c_Compare _ _ _) ?_
  rintro _ w9 ⟨rfl, hl11⟩
  have S10 := S6.step hl11
  refine l_x rfl (x_as rfl) ?_
  refine l_nil ?_
  refine r_ret (rs := [.tmp 4]) [_] Tryz.func95 rfl ⟨rfl, trivial⟩ ?_
  exact ⟨rfl, S10.le⟩

theorem keyS : KeyOk Tryz.prog 9 .string kStr := keyStr (by kernel_rfl)

/-- couchant/share.orders. -/
theorem c_orders  (w : World) :
    Cl Tryz.prog 65 #[] w fun v w' => ∃ mm, v = .map (some mm) ∧ New w w' (mapr kStr (id : Value → Value) mm (mset mnil ⟨#[118, 97, 108, 117, 101]⟩ (.func (.func 95) #[] #[]))) ∧ Le w w' := by
  refine fn_of_run (args := []) 3 Tryz.func65 rfl rfl rfl fun cs => ?_
  have S := Own.start (X := nob) w
  refine r_seq ?_
  refine r_region ?_
  refine l_x rfl (x_as rfl) ?_
  refine l_nil ?_
  refine r_seq ?_
  refine r_region ?_
  refine l_makeMap kStr (id : Value → Value) S rfl ?_
  intro m4 w1 S2 hl3
  refine l_insert (a0 := .func (.func 95) #[] #[]) S2 0 rfl rfl keyS Tryz.runUnderlying107 rfl rfl rfl ?_
  intro w5 S6 hk7
  refine l_x rfl (x_mv rfl) ?_
  refine l_x rfl (x_as rfl) ?_
  refine l_nil ?_
  refine r_ret (rs := [.tmp 0]) [_] Tryz.func65 rfl ⟨rfl, trivial⟩ ?_
  exact ⟨_, rfl, S6.new 0 rfl, S6.le⟩

/-- couchant/share.Compare. -/
theorem c_Compare_ (x y : Fr) (hx : validF x = true) (hy : validF y = true) (w : World) :
    Cl Tryz.prog 34 #[.agg (encF x).toArray, .agg (encF y).toArray] w fun v w' => v = .int .i64 (cmpF x y) ∧ Le w w' := by
  have hcb := cmp_bd hx hy
  refine fn_of_run (args := [_, _]) 15 Tryz.func34 rfl rfl rfl fun cs => ?_
  have S := Own.start (X := nob) w
  refine r_seq ?_
  refine r_region ?_
  refine l_box S rfl rfl ?_
  intro b4 w1 S2 hl3
  refine l_box S2 rfl rfl ?_
  intro b8 w5 S6 hl7
  refine l_x rfl (x_as rfl) ?_
  refine l_nil ?_
  refine r_seq ?_
  refine r_seq ?_
  refine r_region ?_
  refine l_x rfl (x_load rfl (ld_blks (S6.blk 0 rfl) Tryz.isAgg28 Tryz.sizeOf28 rfl rfl)) ?_
  refine l_x rfl (x_load rfl (ld_blks (S6.blk 1 rfl) Tryz.isAgg28 Tryz.sizeOf28 rfl rfl)) ?_
  refine l_buildSlice EF [x, y] S6 rfl Tryz.runUnderlying34 Tryz.sizeOf28 Tryz.zeroValue28 rfl ⟨rfl, rfl, rfl, rfl, trivial⟩ (Nat.le_of_ble_eq_true rfl) ?_
  intro v12 w9 S10 hl11
  refine l_call [] [] [_] rfl rfl Tryz.call31 rfl (c_valid _ _ (by first | omega | exact Nat.le_of_ble_eq_true rfl) _ (vec_rd (S10.at 2 rfl))) ?_
  rintro _ w13 ⟨rfl, hl15⟩
  have S14 := S10.step hl15
  refine l_x rfl (x_not rfl) ?_
  refine l_nil ?_
  refine r_if rfl (fun hc9 => ?_) (fun hc9 => ?_)
  · simp_all
  refine r_skip ?_
  refine r_seq ?_
  refine r_drawE 4 nob Tryz.mixed (by kernel_rfl) ?_
  intro w16 hl17
  have S18 := S14.step hl17
  refine e_exact 2 _ (by kernel_rfl) rfl rfl (by kernel_rfl) rfl (ex_x rfl (fun w1 h1 => x_load rfl (ld_blks ((S18.step h1).blk 0 rfl) Tryz.isAgg28 Tryz.sizeOf28 rfl rfl))) ?_
  refine e_exact 3 _ (by kernel_rfl) rfl rfl (by kernel_rfl) rfl (ex_x rfl (fun w1 h1 => x_load rfl (ld_blks ((S18.step h1).blk 1 rfl) Tryz.isAgg28 Tryz.sizeOf28 rfl rfl))) ?_
  refine e_next [0] (by kernel_rfl) (by kernel_rfl) ⟨⟨_, _, rfl, rfl, ?_⟩, trivial⟩
  refine s_callf [] [] [] rfl rfl Tryz.call65 rfl ((c_orders _).mono ?_)
  rintro _ w19 ⟨mm1019, rfl, hN1019, hl1019⟩
  have S20 := S18.add hl1019 hN1019
  refine ⟨.of_le hl1019, ?_⟩
  refine e_exact 1 _ (by kernel_rfl) rfl rfl (by kernel_rfl) rfl (ex_x rfl (fun w1 h1 => x_lookup ((S20.step h1).at 3 rfl) keyS Tryz.runUnderlying107 rfl rfl Tryz.zeroValue106 (mset_hit _ _ _))) ?_
  refine e_done (by kernel_rfl) ?_
  refine l_call [] [] [_, _] rfl rfl Tryz.call95 rfl (c_orders1 x y hcb _) ?_
  rintro _ w21 ⟨rfl, hl23⟩
  have S22 := S20.step hl23
  refine l_x rfl (x_as rfl) ?_
  refine l_nil ?_
  refine r_ret (rs := [.tmp 4]) [_] Tryz.func34 rfl ⟨rfl, trivial⟩ ?_
  exact ⟨rfl, S22.le⟩

end Go.Proofs

/-
  Contracts of functions of the program: each by symbolic execution of its text.
-/
namespace Go.Proofs
open Go Go.Vk Go.Vk.Flow

open Go.Vk.Deed Go.Vk.Share

end Go.Proofs
