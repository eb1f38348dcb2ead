/- Texts joined for claims: F4, F5, F6, F7, F8, F9, F10, F11, F12, F13, F14, F15, F16, F17, F18, F19. -/
import Derived.Test.YtdikpjkdbgfoaaaGreatKafe515f50b
import Derived.Test.YtdikpjkdbgfoaaaGreatSort
import Derived.Test.YtdikpjkdbgfoaaaGreatKf4cd3ff627
set_option linter.unusedVariables false
set_option linter.unusedSimpArgs false
set_option linter.unusedSectionVars false
namespace Go.Proofs
open Go Go.Vk Go.Vk.Flow

open Go.Vk.Deed

theorem c_isNaN (a : Int) (w : World) :
  Cl Tryz.prog 142 #[.int .i64 a] w fun v w' => v = .bool false ∧ Le w w' := by
 refine fn_of_run (args := [_]) 6 Tryz.func142 rfl rfl rfl fun cs => ?_
 have S := Own.start (X := nob) w
 refine r_seq ?_
 refine r_region ?_
 refine l_a rfl ?_
 refine l_nil ?_
 refine r_seq ?_
 refine r_region ?_
 refine l_m rfl ?_
 refine l_m rfl ?_
 refine l_x rfl (x_neq rfl rfl) ?_
 refine l_a rfl ?_
 refine l_nil ?_
 refine r_ret (rs := [.tmp 2]) [_] Tryz.func142 rfl ⟨rfl, trivial⟩ ?_
 exact ⟨congrArg Value.bool (by simp), S.le⟩

theorem c_Compare (a b : Int) (w : World) :
  Cl Tryz.prog 97 #[.int .i64 a, .int .i64 b] w fun v w' => v = .int .i64 (cmpI a b) ∧ Le w w' := by
 refine fn_of_run (args := [_, _]) 20 Tryz.func97 rfl rfl rfl fun cs => ?_
 have S := Own.start (X := nob) w
 refine r_seq ?_
 refine r_region ?_
 refine l_a rfl ?_
 refine l_nil ?_
 refine r_seq ?_
 refine r_region ?_
 refine l_m rfl ?_
 refine l_call [] [] [_] rfl rfl Tryz.call142 rfl (c_isNaN _ _) ?_
 rintro _ w1 ⟨rfl, hl3⟩
 have S2 := S.step hl3
 refine l_a rfl ?_
 refine l_nil ?_
 refine r_seq ?_
 refine r_region ?_
 refine l_m rfl ?_
 refine l_call [] [] [_] rfl rfl Tryz.call142 rfl (c_isNaN _ _) ?_
 rintro _ w4 ⟨rfl, hl6⟩
 have S5 := S2.step hl6
 refine l_a rfl ?_
 refine l_nil ?_
 refine r_seq ?_
 refine r_seq ?_
 refine r_region ?_
 refine l_m rfl ?_
 refine l_nil ?_
 refine r_false rfl ?_
 refine r_skip ?_
 refine r_seq ?_
 refine r_seq ?_
 refine r_region ?_
 refine l_m rfl ?_
 refine l_nil ?_
 refine r_false rfl ?_
 refine r_skip ?_
 refine r_seq ?_
 refine r_seq ?_
 refine r_region ?_
 refine l_m rfl ?_
 refine l_m rfl ?_
 refine l_x rfl (x_lss rfl rfl) ?_
 refine l_nil ?_
 refine r_ifd rfl (fun hc16 => ?_) (fun hc16 => ?_)
 ·skip
  refine r_seq ?_
  refine r_region ?_
  refine l_a rfl ?_
  refine l_nil ?_
  refine r_ret (rs := [.tmp 4]) [_] Tryz.func97 rfl ⟨rfl, trivial⟩ ?_
  exact ⟨congrArg (Value.int .i64) (by unfold cmpI; split <;> (try split) <;> omega), S5.le⟩
 refine r_skip ?_
 refine r_seq ?_
 refine r_seq ?_
 refine r_region ?_
 refine l_m rfl ?_
 refine l_m rfl ?_
 refine l_x rfl (x_gtr rfl rfl) ?_
 refine l_nil ?_
 refine r_ifd rfl (fun hc19 => ?_) (fun hc19 => ?_)
 ·skip
  refine r_seq ?_
  refine r_region ?_
  refine l_a rfl ?_
  refine l_nil ?_
  refine r_ret (rs := [.tmp 4]) [_] Tryz.func97 rfl ⟨rfl, trivial⟩ ?_
  exact ⟨congrArg (Value.int .i64) (by unfold cmpI; split <;> (try split) <;> omega), S5.le⟩
 refine r_skip ?_
 refine r_seq ?_
 refine r_region ?_
 refine l_a rfl ?_
 refine l_nil ?_
 refine r_ret (rs := [.tmp 4]) [_] Tryz.func97 rfl ⟨rfl, trivial⟩ ?_
 exact ⟨congrArg (Value.int .i64) (by unfold cmpI; split <;> (try split) <;> omega), S5.le⟩

theorem c_Or (l : List Int) (vl : Value) (hm : l.length ≤ 9223372036854775807) (w : World) (hL : Rd EI w vl l) :
  Cl Tryz.prog 153 #[vl] w fun v w' => v = .int .i64 (orI l) ∧ Le w w' := by
 refine fn_of_run (args := [_]) 18 Tryz.func153 rfl rfl rfl fun cs => ?_
 have S := Own.start (X := nob) w
 refine r_seq ?_
 refine r_region ?_
 refine l_a rfl ?_
 refine l_nil ?_
 refine r_seq ?_
 refine r_region ?_
 refine l_a rfl ?_
 refine l_nil ?_
 refine r_seq ?_
 refine r_seq ?_
 refine r_region ?_
 refine l_m rfl ?_
 refine l_x rfl (x_len (hL.le S.le) rfl Tryz.runUnderlying24) ?_
 refine l_m rfl ?_
 refine l_nil ?_
 refine r_block ?_
 refine r_loop (G := Nat) (fun i => l.length - i) (fun i => [(3, .int .i64 0), (6, vl), (7, .int .i64 l.length), (8, .int .i64 i)]) (fun i w' => (i ≤ l.length) ∧ (orI l = orI (l.drop i)) ∧ Own nob w w' []) 0 ⟨rfl, rfl, rfl, rfl, trivial⟩ ⟨Nat.zero_le _, by rw [List.drop_zero], S⟩ ?_
 rintro i ρ w1 ⟨hi, hz, S1⟩ IH
 refine r_seq ?_
 refine r_region ?_
 refine l_x rfl (x_lss rfl rfl) ?_
 refine l_nil ?_
 refine r_seq ?_
 refine r_ifd rfl (fun hc9 => ?_) (fun hc9 => ?_)
 ·skip
  obtain ⟨a, ha⟩ : ∃ a, l[i]? = some a := ⟨_, List.getElem?_eq_getElem (by omega)⟩
  refine r_skip ?_
  refine r_seq ?_
  refine r_block ?_
  refine r_seq ?_
  refine r_region ?_
  refine l_index EI rfl (hL.le S1.le) rfl rfl Tryz.runUnderlying24 Tryz.sizeOf3 (by omega) (by first | assumption | exact List.getElem?_eq_getElem (by omega)) ?_
  intro b1 o2 hat3 row4
  refine l_x rfl (x_load rfl (ld_cell Tryz.isAgg3 (row4 0 _ rfl))) ?_
  refine l_a rfl ?_
  refine l_nil ?_
  refine r_seq ?_
  refine r_region ?_
  refine l_m rfl ?_
  refine l_m rfl ?_
  refine l_x rfl (x_neq rfl rfl) ?_
  refine l_nil ?_
  refine r_ifd rfl (fun hc14 => ?_) (fun hc14 => ?_)
  ·skip
   refine r_seq ?_
   refine r_region ?_
   refine l_m rfl ?_
   refine l_a rfl ?_
   refine l_nil ?_
   refine r_ret (rs := [.tmp 2]) [_] Tryz.func153 rfl ⟨rfl, trivial⟩ ?_
   exact ⟨congrArg (Value.int .i64) (by rw [hz, or_take ha hc14]), S1.le⟩
  refine r_skip ?_
  refine r_inBlock ?_
  refine r_region ?_
  refine l_x rfl (x_add rfl rfl (by omega)) ?_
  refine l_m rfl ?_
  refine l_nil ?_
  exact IH (i + 1) _ _ (by omega) ⟨rfl, rfl, rfl, rfl, trivial⟩ ⟨by omega, by rw [hz, or_skip ha (Decidable.not_not.1 hc14)], S1⟩
 obtain rfl : i = l.length := by omega
 refine r_exit rfl ?_
 refine r_seq ?_
 refine r_region ?_
 refine l_m rfl ?_
 refine l_a rfl ?_
 refine l_nil ?_
 refine r_ret (rs := [.tmp 2]) [_] Tryz.func153 rfl ⟨rfl, trivial⟩ ?_
 exact ⟨congrArg (Value.int .i64) (by rw [hz, List.drop_length]; rfl), S1.le⟩

theorem c_counting1 (a b : Rw) (w : World) :
  Cl Tryz.prog 152 #[.agg (encD a).toArray, .agg (encD b).toArray] w fun v w' => v = .int .i64 (cfD a b) ∧ Le w w' := by
 refine fn_of_run (args := [_, _]) 17 Tryz.func152 rfl rfl rfl fun cs => ?_
 have S := Own.start (X := nob) w
 refine r_seq ?_
 refine r_region ?_
 refine l_box S rfl rfl ?_
 intro b4 w1 S2 hl3
 refine l_box S2 rfl rfl ?_
 intro b8 w5 S6 hl7
 refine l_a rfl ?_
 refine l_nil ?_
 refine r_seq ?_
 refine r_drawR 10 Tryz.mixed (by kernel_rfl) ?_
 refine w_x rfl (fun w1 h1 => x_fieldAddr rfl Tryz.runUnderlying26 rfl Tryz.sizeOf3 (by decide)) ?_
 refine w_x rfl (fun w1 h1 => x_load rfl (ld_blk ((S6.step h1).blk 0 rfl) Tryz.isAgg3 rfl)) ?_
 refine w_x rfl (fun w1 h1 => x_fieldAddr rfl Tryz.runUnderlying26 rfl Tryz.sizeOf3 (by decide)) ?_
 refine w_x rfl (fun w1 h1 => x_load rfl (ld_blk ((S6.step h1).blk 1 rfl) Tryz.isAgg3 rfl)) ?_
 refine wd_call [] [] [_, _] rfl rfl Tryz.call97 rfl (fun w1 h1 => c_Compare _ _ _) ?_
 refine w_x rfl (fun w1 h1 => x_fieldAddr rfl Tryz.runUnderlying26 rfl Tryz.sizeOf3 (by decide)) ?_
 refine w_x rfl (fun w1 h1 => x_load rfl (ld_blk ((S6.step h1).blk 0 rfl) Tryz.isAgg3 rfl)) ?_
 refine w_x rfl (fun w1 h1 => x_fieldAddr rfl Tryz.runUnderlying26 rfl Tryz.sizeOf3 (by decide)) ?_
 refine w_x rfl (fun w1 h1 => x_load rfl (ld_blk ((S6.step h1).blk 1 rfl) Tryz.isAgg3 rfl)) ?_
 refine wd_call [] [] [_, _] rfl rfl Tryz.call97 rfl (fun w1 h1 => c_Compare _ _ _) ?_
 refine w_nil ?_
 intro w9 hl10
 have S11 := S6.step hl10
 refine l_buildSlice EI [cmpI a.1.day b.1.day, cmpI a.1.id b.1.id] S11 rfl Tryz.runUnderlying24 Tryz.sizeOf3 Tryz.zeroValue3 rfl ⟨rfl, rfl, rfl, rfl, trivial⟩ (Nat.le_of_ble_eq_true rfl) ?_
 intro v15 w12 S13 hl14
 refine l_call [] [] [_] rfl rfl Tryz.call153 rfl (c_Or _ _ (Nat.le_of_ble_eq_true rfl) _ (vec_rd (S13.at 2 rfl))) ?_
 rintro _ w16 ⟨rfl, hl18⟩
 have S17 := S13.step hl18
 refine l_a rfl ?_
 refine l_nil ?_
 refine r_ret (rs := [.tmp 4]) [_] Tryz.func152 rfl ⟨rfl, trivial⟩ ?_
 exact ⟨rfl, S17.le⟩

theorem c_Leases1 (a b : Lz) (w : World) :
  Cl Tryz.prog 122 #[.agg (encLz a).toArray, .agg (encLz b).toArray] w fun v w' => v = .int .i64 (cmpI a.deed b.deed) ∧ Le w w' := by
 refine fn_of_run (args := [_, _]) 10 Tryz.func122 rfl rfl rfl fun cs => ?_
 have S := Own.start (X := nob) w
 refine r_seq ?_
 refine r_region ?_
 refine l_box S rfl rfl ?_
 intro b4 w1 S2 hl3
 refine l_box S2 rfl rfl ?_
 intro b8 w5 S6 hl7
 refine l_a rfl ?_
 refine l_nil ?_
 refine r_seq ?_
 refine r_region ?_
 refine l_x rfl (x_fieldAddr rfl Tryz.runUnderlying84 rfl Tryz.sizeOf3 (by decide)) ?_
 refine l_x rfl (x_load rfl (ld_blk (S6.blk 0 rfl) Tryz.isAgg3 rfl)) ?_
 refine l_x rfl (x_fieldAddr rfl Tryz.runUnderlying84 rfl Tryz.sizeOf3 (by decide)) ?_
 refine l_x rfl (x_load rfl (ld_blk (S6.blk 1 rfl) Tryz.isAgg3 rfl)) ?_
 refine l_call [] [] [_, _] rfl rfl Tryz.call97 rfl (c_Compare _ _ _) ?_
 rintro _ w9 ⟨rfl, hl11⟩
 have S10 := S6.step hl11
 refine l_a rfl ?_
 refine l_nil ?_
 refine r_ret (rs := [.tmp 4]) [_] Tryz.func122 rfl ⟨rfl, trivial⟩ ?_
 exact ⟨rfl, S10.le⟩

theorem c_Pledges1 (a b : Pl) (w : World) :
  Cl Tryz.prog 124 #[.agg (encPl a).toArray, .agg (encPl b).toArray] w fun v w' => v = .int .i64 (cmpI a.deed b.deed) ∧ Le w w' := by
 refine fn_of_run (args := [_, _]) 10 Tryz.func124 rfl rfl rfl fun cs => ?_
 have S := Own.start (X := nob) w
 refine r_seq ?_
 refine r_region ?_
 refine l_box S rfl rfl ?_
 intro b4 w1 S2 hl3
 refine l_box S2 rfl rfl ?_
 intro b8 w5 S6 hl7
 refine l_a rfl ?_
 refine l_nil ?_
 refine r_seq ?_
 refine r_region ?_
 refine l_x rfl (x_fieldAddr rfl Tryz.runUnderlying86 rfl Tryz.sizeOf3 (by decide)) ?_
 refine l_x rfl (x_load rfl (ld_blk (S6.blk 0 rfl) Tryz.isAgg3 rfl)) ?_
 refine l_x rfl (x_fieldAddr rfl Tryz.runUnderlying86 rfl Tryz.sizeOf3 (by decide)) ?_
 refine l_x rfl (x_load rfl (ld_blk (S6.blk 1 rfl) Tryz.isAgg3 rfl)) ?_
 refine l_call [] [] [_, _] rfl rfl Tryz.call97 rfl (c_Compare _ _ _) ?_
 rintro _ w9 ⟨rfl, hl11⟩
 have S10 := S6.step hl11
 refine l_a rfl ?_
 refine l_nil ?_
 refine r_ret (rs := [.tmp 4]) [_] Tryz.func124 rfl ⟨rfl, trivial⟩ ?_
 exact ⟨rfl, S10.le⟩

theorem c_SortDeed (v : Value) (l : List Rw) (w : World) (S : Own (vec ED v l).fp w w [vec ED v l]) (hl : l.length < 4611686018427387904) :
  Cl Tryz.prog 177 #[v, .func (.func 152) #[] #[]] w fun _ w' => ∃ l', l'.Perm l ∧ SortedL cfD l' ∧ Own (vec ED v l).fp w w' [vec ED v l'] :=
 sortK_cl (E := ED) (cf := cfD) (cb := #[]) (g := 152) (fun blk off cap d w hc hH hb hs => AnyQ.slices_SortFunc Tryz.sortDeed 11 Tryz.isAgg26 Tryz.sizeOf26 ED.enc ED.len ED.one cfD swo_D 152 #[] blk off cap d w Tryz.call152 hc hH hb hs) (fun p cap fv w => AnyF.slices_SortFunc_none { Tryz.sortDeed with } p cap fv w) (fun x y w1 => by rw [Array.append_empty]; exact c_counting1 x y w1) S hl

theorem c_CloneDeed (va : Value) (l : List Rw) (hm : l.length ≤ 1000000000) (w : World) (hL : Rd ED w va l) :
  Cl Tryz.prog 103 #[va] w fun v w' => New w w' (vec ED v l) ∧ Le w w' := by
 refine fn_of_run (args := [_]) 8 Tryz.func103 rfl rfl rfl fun cs => ?_
 have S := Own.start (X := nob) w
 refine r_seq ?_
 refine r_region ?_
 refine l_a rfl ?_
 refine l_nil ?_
 refine r_seq ?_
 refine r_seq ?_
 refine r_region ?_
 refine l_m rfl ?_
 refine l_nilsl (hL.le S.le) rfl rfl rfl Tryz.runUnderlying23 (fun t1 hnil4 => ?_)
 refine l_nil ?_
 refine r_if rfl (fun hc4 => ?_) (fun hc4 => ?_)
 ·skip
  refine r_seq ?_
  refine r_region ?_
  refine l_a rfl ?_
  refine l_nil ?_
  refine r_ret (rs := [.tmp 2]) [_] Tryz.func103 rfl ⟨rfl, trivial⟩ ?_
  exact ⟨by rw [hnil4 hc4]; exact New.nilvec .., S.le⟩
 refine r_skip ?_
 refine r_seq ?_
 refine r_region ?_
 refine l_buildSlice ED [] S rfl Tryz.runUnderlying23 Tryz.sizeOf26 Tryz.zeroValue26 rfl trivial (Nat.le_of_ble_eq_true rfl) ?_
 intro v5 w2 S3 hl4
 refine l_m rfl ?_
 refine l_append ED S3 0 rfl rfl rfl rfl (hL.le S3.le) Tryz.underlying23 info26 rfl rfl rfl (by unfold maxLen; rw [List.length_nil]; omega) (by rw [List.length_nil]; show _ * 120 ≤ _; omega) ?_
 intro v9 w6 S7 hk8 hv10
 refine l_a rfl ?_
 refine l_nil ?_
 refine r_ret (rs := [.tmp 2]) [_] Tryz.func103 rfl ⟨rfl, trivial⟩ ?_
 exact ⟨S7.new 0 rfl, S7.le⟩

theorem c_sortedDeed (va : Value) (l : List Rw) (hm : l.length ≤ 1000000000) (w : World) (hL : Rd ED w va l) :
  Cl Tryz.prog 151 #[va, .func (.func 152) #[] #[]] w fun v w' => ∃ l', l'.Perm l ∧ SortedL cfD l' ∧ New w w' (vec ED v l') ∧ Le w w' := by
 refine fn_of_run (args := [_, _]) 12 Tryz.func151 rfl rfl rfl fun cs => ?_
 have S := Own.start (X := nob) w
 refine r_seq ?_
 refine r_region ?_
 refine l_a rfl ?_
 refine l_nil ?_
 refine r_seq ?_
 refine r_region ?_
 refine l_m rfl ?_
 refine l_call [] [] [_] rfl rfl Tryz.call103 rfl (c_CloneDeed _ _ hm _ (hL.le S.le)) ?_
 rintro v71 w1 ⟨hN71, hl71⟩
 have S2 := S.add hl71 hN71
 refine l_a rfl ?_
 refine l_nil ?_
 refine r_seq ?_
 refine r_region ?_
 refine l_m rfl ?_
 refine l_m rfl ?_
 refine l_call [] [] [_, _] rfl rfl Tryz.call177 rfl (c_SortDeed _ _ _ (S2.lend 0 rfl) (by omega)) ?_
 rintro _ w3 ⟨l', hp', hs', h4⟩
 have S5 := S2.back 0 rfl h4
 refine l_nil ?_
 refine r_seq ?_
 refine r_region ?_
 refine l_m rfl ?_
 refine l_a rfl ?_
 refine l_nil ?_
 refine r_ret (rs := [.tmp 4]) [_] Tryz.func151 rfl ⟨rfl, trivial⟩ ?_
 exact ⟨l', hp', hs', S5.new 0 rfl, S5.le⟩

theorem c_SortLz (v : Value) (l : List Lz) (w : World) (S : Own (vec ELZ v l).fp w w [vec ELZ v l]) (hl : l.length < 4611686018427387904) :
  Cl Tryz.prog 162 #[v, .func (.func 122) #[] #[]] w fun _ w' => ∃ l', l'.Perm l ∧ SortedL (fun x y : Lz => cmpI x.deed y.deed) l' ∧ Own (vec ELZ v l).fp w w' [vec ELZ v l'] :=
 sortK_cl (E := ELZ) (cf := (fun x y : Lz => cmpI x.deed y.deed)) (cb := #[]) (g := 122) (fun blk off cap d w hc hH hb hs => AnyQ.slices_SortFunc Tryz.sortLz 5 Tryz.isAgg84 Tryz.sizeOf84 ELZ.enc ELZ.len ELZ.one (fun x y : Lz => cmpI x.deed y.deed) swo_Lz 122 #[] blk off cap d w Tryz.call122 hc hH hb hs) (fun p cap fv w => AnyF.slices_SortFunc_none { Tryz.sortLz with } p cap fv w) (fun x y w1 => by rw [Array.append_empty]; exact c_Leases1 x y w1) S hl

theorem c_CloneLz (va : Value) (l : List Lz) (hm : l.length ≤ 1000000000) (w : World) (hL : Rd ELZ w va l) :
  Cl Tryz.prog 161 #[va] w fun v w' => New w w' (vec ELZ v l) ∧ Le w w' := by
 refine fn_of_run (args := [_]) 8 Tryz.func161 rfl rfl rfl fun cs => ?_
 have S := Own.start (X := nob) w
 refine r_seq ?_
 refine r_region ?_
 refine l_a rfl ?_
 refine l_nil ?_
 refine r_seq ?_
 refine r_seq ?_
 refine r_region ?_
 refine l_m rfl ?_
 refine l_nilsl (hL.le S.le) rfl rfl rfl Tryz.runUnderlying78 (fun t1 hnil4 => ?_)
 refine l_nil ?_
 refine r_if rfl (fun hc4 => ?_) (fun hc4 => ?_)
 ·skip
  refine r_seq ?_
  refine r_region ?_
  refine l_a rfl ?_
  refine l_nil ?_
  refine r_ret (rs := [.tmp 2]) [_] Tryz.func161 rfl ⟨rfl, trivial⟩ ?_
  exact ⟨by rw [hnil4 hc4]; exact New.nilvec .., S.le⟩
 refine r_skip ?_
 refine r_seq ?_
 refine r_region ?_
 refine l_buildSlice ELZ [] S rfl Tryz.runUnderlying78 Tryz.sizeOf84 Tryz.zeroValue84 rfl trivial (Nat.le_of_ble_eq_true rfl) ?_
 intro v5 w2 S3 hl4
 refine l_m rfl ?_
 refine l_append ELZ S3 0 rfl rfl rfl rfl (hL.le S3.le) Tryz.underlying78 info84 rfl rfl rfl (by unfold maxLen; rw [List.length_nil]; omega) (by rw [List.length_nil]; show _ * 40 ≤ _; omega) ?_
 intro v9 w6 S7 hk8 hv10
 refine l_a rfl ?_
 refine l_nil ?_
 refine r_ret (rs := [.tmp 2]) [_] Tryz.func161 rfl ⟨rfl, trivial⟩ ?_
 exact ⟨S7.new 0 rfl, S7.le⟩

theorem c_sortedLz (va : Value) (l : List Lz) (hm : l.length ≤ 1000000000) (w : World) (hL : Rd ELZ w va l) :
  Cl Tryz.prog 121 #[va, .func (.func 122) #[] #[]] w fun v w' => ∃ l', l'.Perm l ∧ SortedL (fun x y : Lz => cmpI x.deed y.deed) l' ∧ New w w' (vec ELZ v l') ∧ Le w w' := by
 refine fn_of_run (args := [_, _]) 12 Tryz.func121 rfl rfl rfl fun cs => ?_
 have S := Own.start (X := nob) w
 refine r_seq ?_
 refine r_region ?_
 refine l_a rfl ?_
 refine l_nil ?_
 refine r_seq ?_
 refine r_region ?_
 refine l_m rfl ?_
 refine l_call [] [] [_] rfl rfl Tryz.call161 rfl (c_CloneLz _ _ hm _ (hL.le S.le)) ?_
 rintro v71 w1 ⟨hN71, hl71⟩
 have S2 := S.add hl71 hN71
 refine l_a rfl ?_
 refine l_nil ?_
 refine r_seq ?_
 refine r_region ?_
 refine l_m rfl ?_
 refine l_m rfl ?_
 refine l_call [] [] [_, _] rfl rfl Tryz.call162 rfl (c_SortLz _ _ _ (S2.lend 0 rfl) (by omega)) ?_
 rintro _ w3 ⟨l', hp', hs', h4⟩
 have S5 := S2.back 0 rfl h4
 refine l_nil ?_
 refine r_seq ?_
 refine r_region ?_
 refine l_m rfl ?_
 refine l_a rfl ?_
 refine l_nil ?_
 refine r_ret (rs := [.tmp 4]) [_] Tryz.func121 rfl ⟨rfl, trivial⟩ ?_
 exact ⟨l', hp', hs', S5.new 0 rfl, S5.le⟩

theorem c_SortPl (v : Value) (l : List Pl) (w : World) (S : Own (vec EPL v l).fp w w [vec EPL v l]) (hl : l.length < 4611686018427387904) :
  Cl Tryz.prog 164 #[v, .func (.func 124) #[] #[]] w fun _ w' => ∃ l', l'.Perm l ∧ SortedL (fun x y : Pl => cmpI x.deed y.deed) l' ∧ Own (vec EPL v l).fp w w' [vec EPL v l'] :=
 sortK_cl (E := EPL) (cf := (fun x y : Pl => cmpI x.deed y.deed)) (cb := #[]) (g := 124) (fun blk off cap d w hc hH hb hs => AnyQ.slices_SortFunc Tryz.sortPl 4 Tryz.isAgg86 Tryz.sizeOf86 EPL.enc EPL.len EPL.one (fun x y : Pl => cmpI x.deed y.deed) swo_Pl 124 #[] blk off cap d w Tryz.call124 hc hH hb hs) (fun p cap fv w => AnyF.slices_SortFunc_none { Tryz.sortPl with } p cap fv w) (fun x y w1 => by rw [Array.append_empty]; exact c_Pledges1 x y w1) S hl

theorem c_ClonePl (va : Value) (l : List Pl) (hm : l.length ≤ 1000000000) (w : World) (hL : Rd EPL w va l) :
  Cl Tryz.prog 163 #[va] w fun v w' => New w w' (vec EPL v l) ∧ Le w w' := by
 refine fn_of_run (args := [_]) 8 Tryz.func163 rfl rfl rfl fun cs => ?_
 have S := Own.start (X := nob) w
 refine r_seq ?_
 refine r_region ?_
 refine l_a rfl ?_
 refine l_nil ?_
 refine r_seq ?_
 refine r_seq ?_
 refine r_region ?_
 refine l_m rfl ?_
 refine l_nilsl (hL.le S.le) rfl rfl rfl Tryz.runUnderlying81 (fun t1 hnil4 => ?_)
 refine l_nil ?_
 refine r_if rfl (fun hc4 => ?_) (fun hc4 => ?_)
 ·skip
  refine r_seq ?_
  refine r_region ?_
  refine l_a rfl ?_
  refine l_nil ?_
  refine r_ret (rs := [.tmp 2]) [_] Tryz.func163 rfl ⟨rfl, trivial⟩ ?_
  exact ⟨by rw [hnil4 hc4]; exact New.nilvec .., S.le⟩
 refine r_skip ?_
 refine r_seq ?_
 refine r_region ?_
 refine l_buildSlice EPL [] S rfl Tryz.runUnderlying81 Tryz.sizeOf86 Tryz.zeroValue86 rfl trivial (Nat.le_of_ble_eq_true rfl) ?_
 intro v5 w2 S3 hl4
 refine l_m rfl ?_
 refine l_append EPL S3 0 rfl rfl rfl rfl (hL.le S3.le) Tryz.underlying81 info86 rfl rfl rfl (by unfold maxLen; rw [List.length_nil]; omega) (by rw [List.length_nil]; show _ * 32 ≤ _; omega) ?_
 intro v9 w6 S7 hk8 hv10
 refine l_a rfl ?_
 refine l_nil ?_
 refine r_ret (rs := [.tmp 2]) [_] Tryz.func163 rfl ⟨rfl, trivial⟩ ?_
 exact ⟨S7.new 0 rfl, S7.le⟩

theorem c_sortedPl (va : Value) (l : List Pl) (hm : l.length ≤ 1000000000) (w : World) (hL : Rd EPL w va l) :
  Cl Tryz.prog 123 #[va, .func (.func 124) #[] #[]] w fun v w' => ∃ l', l'.Perm l ∧ SortedL (fun x y : Pl => cmpI x.deed y.deed) l' ∧ New w w' (vec EPL v l') ∧ Le w w' := by
 refine fn_of_run (args := [_, _]) 12 Tryz.func123 rfl rfl rfl fun cs => ?_
 have S := Own.start (X := nob) w
 refine r_seq ?_
 refine r_region ?_
 refine l_a rfl ?_
 refine l_nil ?_
 refine r_seq ?_
 refine r_region ?_
 refine l_m rfl ?_
 refine l_call [] [] [_] rfl rfl Tryz.call163 rfl (c_ClonePl _ _ hm _ (hL.le S.le)) ?_
 rintro v71 w1 ⟨hN71, hl71⟩
 have S2 := S.add hl71 hN71
 refine l_a rfl ?_
 refine l_nil ?_
 refine r_seq ?_
 refine r_region ?_
 refine l_m rfl ?_
 refine l_m rfl ?_
 refine l_call [] [] [_, _] rfl rfl Tryz.call164 rfl (c_SortPl _ _ _ (S2.lend 0 rfl) (by omega)) ?_
 rintro _ w3 ⟨l', hp', hs', h4⟩
 have S5 := S2.back 0 rfl h4
 refine l_nil ?_
 refine r_seq ?_
 refine r_region ?_
 refine l_m rfl ?_
 refine l_a rfl ?_
 refine l_nil ?_
 refine r_ret (rs := [.tmp 4]) [_] Tryz.func123 rfl ⟨rfl, trivial⟩ ?_
 exact ⟨l', hp', hs', S5.new 0 rfl, S5.le⟩

theorem c_SortInt (v : Value) (l : List Int) (w : World) (S : Own (vec EI v l).fp w w [vec EI v l]) (hl : l.length < 4611686018427387904) :
  Cl Tryz.prog 155 #[v, .func (.func 97) #[] #[]] w fun _ w' => ∃ l', l'.Perm l ∧ SortedL cmpI l' ∧ Own (vec EI v l).fp w w' [vec EI v l'] :=
 sort1_cl (E := EI) (cf := cmpI) (cb := #[]) (g := 97) (enc := Value.int .i64) (fun _ => rfl) (fun blk off cap d w hc hH hb hs => Any.slices_SortFunc Tryz.sortInt (Value.int .i64) (fun _ => rfl) cmpI swo_I 97 #[] blk off cap d w Tryz.call97 hc hH hb hs) (fun p cap fv w => AnyF.slices_SortFunc_none { Tryz.sortInt with } p cap fv w) (fun x y w1 => by rw [Array.append_empty]; exact c_Compare x y w1) S hl

theorem c_CloneInt (va : Value) (l : List Int) (hm : l.length ≤ 1000000000) (w : World) (hL : Rd EI w va l) :
  Cl Tryz.prog 148 #[va] w fun v w' => New w w' (vec EI v l) ∧ Le w w' := by
 refine fn_of_run (args := [_]) 8 Tryz.func148 rfl rfl rfl fun cs => ?_
 have S := Own.start (X := nob) w
 refine r_seq ?_
 refine r_region ?_
 refine l_a rfl ?_
 refine l_nil ?_
 refine r_seq ?_
 refine r_seq ?_
 refine r_region ?_
 refine l_m rfl ?_
 refine l_nilsl (hL.le S.le) rfl rfl rfl Tryz.runUnderlying24 (fun t1 hnil4 => ?_)
 refine l_nil ?_
 refine r_if rfl (fun hc4 => ?_) (fun hc4 => ?_)
 ·skip
  refine r_seq ?_
  refine r_region ?_
  refine l_a rfl ?_
  refine l_nil ?_
  refine r_ret (rs := [.tmp 2]) [_] Tryz.func148 rfl ⟨rfl, trivial⟩ ?_
  exact ⟨by rw [hnil4 hc4]; exact New.nilvec .., S.le⟩
 refine r_skip ?_
 refine r_seq ?_
 refine r_region ?_
 refine l_buildSlice EI [] S rfl Tryz.runUnderlying24 Tryz.sizeOf3 Tryz.zeroValue3 rfl trivial (Nat.le_of_ble_eq_true rfl) ?_
 intro v5 w2 S3 hl4
 refine l_m rfl ?_
 refine l_append EI S3 0 rfl rfl rfl rfl (hL.le S3.le) Tryz.underlying24 info3 rfl rfl rfl (by unfold maxLen; rw [List.length_nil]; omega) (by rw [List.length_nil]; show _ * 8 ≤ _; omega) ?_
 intro v9 w6 S7 hk8 hv10
 refine l_a rfl ?_
 refine l_nil ?_
 refine r_ret (rs := [.tmp 2]) [_] Tryz.func148 rfl ⟨rfl, trivial⟩ ?_
 exact ⟨S7.new 0 rfl, S7.le⟩

theorem c_sortedInt (va : Value) (l : List Int) (hm : l.length ≤ 1000000000) (w : World) (hL : Rd EI w va l) :
  Cl Tryz.prog 110 #[va, .func (.func 97) #[] #[]] w fun v w' => ∃ l', l'.Perm l ∧ SortedL cmpI l' ∧ New w w' (vec EI v l') ∧ Le w w' := by
 refine fn_of_run (args := [_, _]) 12 Tryz.func110 rfl rfl rfl fun cs => ?_
 have S := Own.start (X := nob) w
 refine r_seq ?_
 refine r_region ?_
 refine l_a rfl ?_
 refine l_nil ?_
 refine r_seq ?_
 refine r_region ?_
 refine l_m rfl ?_
 refine l_call [] [] [_] rfl rfl Tryz.call148 rfl (c_CloneInt _ _ hm _ (hL.le S.le)) ?_
 rintro v71 w1 ⟨hN71, hl71⟩
 have S2 := S.add hl71 hN71
 refine l_a rfl ?_
 refine l_nil ?_
 refine r_seq ?_
 refine r_region ?_
 refine l_m rfl ?_
 refine l_m rfl ?_
 refine l_call [] [] [_, _] rfl rfl Tryz.call155 rfl (c_SortInt _ _ _ (S2.lend 0 rfl) (by omega)) ?_
 rintro _ w3 ⟨l', hp', hs', h4⟩
 have S5 := S2.back 0 rfl h4
 refine l_nil ?_
 refine r_seq ?_
 refine r_region ?_
 refine l_m rfl ?_
 refine l_a rfl ?_
 refine l_nil ?_
 refine r_ret (rs := [.tmp 4]) [_] Tryz.func110 rfl ⟨rfl, trivial⟩ ?_
 exact ⟨l', hp', hs', S5.new 0 rfl, S5.le⟩

end Go.Proofs

namespace Go.Proofs
open Go Go.Vk Go.Vk.Flow

open Go.Vk.Deed

set_option maxHeartbeats 2000000 in
theorem c_counting (rs : List Rw) (vl : Value) (known : Int) (hA : Asc (dl rs)) (hml4 : rs.length ≤ 400) (w : World) (hD : DsR 26 3 w vl rs) :
  Cl Tryz.prog 106 #[vl, .int .i64 known] w fun v w' => ∃ rs', dl rs' = counting (dl rs) known ∧ (∀ a ∈ rs', a ∈ rs) ∧ New w w' (vec ED v rs') ∧ Le w w' := by
 have hml := hD.lm
 have hfl := fun i => List.length_filter_le (fun a : Rw => counts (dl rs) known a.1) (rs.take i)
 have hfl8 := hfl rs.length
 rw [List.length_take, Nat.min_self] at hfl8
 refine fn_of_run (args := [_, _]) 60 Tryz.func106 rfl rfl rfl fun cs => ?_
 have S := Own.start (X := nob) w
 refine r_seq ?_
 refine r_region ?_
 refine l_a rfl ?_
 refine l_nil ?_
 refine r_seq ?_
 refine r_region ?_
 refine l_makeMap kInt Value.bool S rfl ?_
 intro m4 w1 S2 hl3
 refine l_a rfl ?_
 refine l_nil ?_
 refine r_seq ?_
 refine r_seq ?_
 refine r_region ?_
 refine l_m rfl ?_
 refine l_x rfl (x_len (hD.rd.le S2.le) rfl Tryz.runUnderlying23) ?_
 refine l_m rfl ?_
 refine l_nil ?_
 refine r_block ?_
 refine r_loop (G := Nat × List Int) (fun ⟨i, vs⟩ => rs.length - i) (fun ⟨i, vs⟩ => [(0, vl), (1, .int .i64 known), (5, .map (some m4)), (12, vl), (13, .int .i64 rs.length), (14, .int .i64 i)]) (fun ⟨i, vs⟩ w' => (i ≤ rs.length) ∧ (∀ id, vs.contains id = voided ((dl rs).take i) known id) ∧ Own nob w w' [mapr kInt Value.bool m4 (setM vs)]) (0, []) ⟨rfl, rfl, rfl, rfl, rfl, rfl, trivial⟩ ⟨Nat.zero_le _, (fun id => rfl), (by rw [← setM_nil]; exact S2)⟩ ?_
 rintro ⟨i, vs⟩ ρ w1 ⟨hi, hvo, S1⟩ IH
 refine r_seq ?_
 refine r_region ?_
 refine l_x rfl (x_lss rfl rfl) ?_
 refine l_nil ?_
 refine r_seq ?_
 refine r_ifd rfl (fun hc15 => ?_) (fun hc15 => ?_)
 ·skip
  obtain ⟨a, ha⟩ : ∃ a, rs[i]? = some a := ⟨_, List.getElem?_eq_getElem (by omega)⟩
  have ham := List.mem_of_getElem? ha
  refine r_skip ?_
  refine r_seq ?_
  refine r_block ?_
  refine r_seq ?_
  refine r_region ?_
  refine l_index ED rfl (hD.rd.le S1.le) rfl rfl Tryz.runUnderlying23 Tryz.sizeOf26 (by omega) ha ?_
  intro b5 o6 hat7 row8
  refine l_x rfl (x_load rfl (ld_row Tryz.isAgg26 Tryz.sizeOf26 rfl row8)) ?_
  refine l_alloc S1 rfl Tryz.zeroValue26 rfl ?_
  intro b12 w9 S10 hl11
  refine l_stores S10 1 rfl rfl rfl rfl (ED.one _) Tryz.sizeOf26 (by first | exact Nat.le_refl _ | simp) (splice_all rfl) ?_
  intro w13 S14 hk15
  refine l_nil ?_
  refine r_seq ?_
  refine r_region ?_
  refine l_x rfl (x_fieldAddr rfl Tryz.runUnderlying26 rfl Tryz.sizeOf5 (by decide)) ?_
  refine l_x rfl (x_load rfl (ld_blk (S14.blk 1 rfl) Tryz.isAgg5 rfl)) ?_
  refine l_x rfl (x_eql rfl rfl) ?_
  refine l_m rfl ?_
  refine l_splitd (d := 21) rfl (fun hg21 => ?_) (fun hg21 => ?_)
  ·skip
   refine l_x rfl (x_fieldAddr rfl Tryz.runUnderlying26 rfl Tryz.sizeOf3 (by decide)) ?_
   refine l_x rfl (x_load rfl (ld_blk (S14.blk 1 rfl) Tryz.isAgg3 rfl)) ?_
   refine l_m rfl ?_
   refine l_x rfl (x_leq rfl rfl) ?_
   refine l_x rfl (x_pick_t rfl rfl) ?_
   refine l_nil ?_
   refine r_ifd rfl (fun hc26 => ?_) (fun hc26 => ?_)
   ·skip
    refine r_region ?_
    refine l_m rfl ?_
    refine l_x rfl (x_fieldAddr rfl Tryz.runUnderlying26 rfl Tryz.sizeOf3 (by decide)) ?_
    refine l_x rfl (x_load rfl (ld_blk (S14.blk 1 rfl) Tryz.isAgg3 rfl)) ?_
    refine l_mapUpdate S14 0 rfl rfl keyI Tryz.runUnderlying121 rfl rfl rfl ?_
    intro w16 S17 hk18
    refine l_nil ?_
    refine r_inBlock ?_
    refine r_region ?_
    refine l_x rfl (x_add rfl rfl (by omega)) ?_
    refine l_m rfl ?_
    refine l_nil ?_
    exact IH (i + 1, a.1.of :: vs) _ _ (by dsimp only; omega) ⟨rfl, rfl, rfl, rfl, rfl, rfl, trivial⟩ ⟨by omega, void_t (dl_get ha) (by omega) hvo, (by rw [← setM_cons]; exact S17.take 1)⟩
   refine r_skip ?_
   refine r_inBlock ?_
   refine r_region ?_
   refine l_x rfl (x_add rfl rfl (by omega)) ?_
   refine l_m rfl ?_
   refine l_nil ?_
   exact IH (i + 1, vs) _ _ (by dsimp only; omega) ⟨rfl, rfl, rfl, rfl, rfl, rfl, trivial⟩ ⟨by omega, void_f (dl_get ha) (by omega) hvo, (S14.take 1)⟩
  refine l_pass rfl ?_
  refine l_pass rfl ?_
  refine l_pass rfl ?_
  refine l_pass rfl ?_
  refine l_x rfl (x_pick_f rfl rfl) ?_
  refine l_nil ?_
  refine r_false rfl ?_
  refine r_skip ?_
  refine r_inBlock ?_
  refine r_region ?_
  refine l_x rfl (x_add rfl rfl (by omega)) ?_
  refine l_m rfl ?_
  refine l_nil ?_
  exact IH (i + 1, vs) _ _ (by dsimp only; omega) ⟨rfl, rfl, rfl, rfl, rfl, rfl, trivial⟩ ⟨by omega, void_f (dl_get ha) (by omega) hvo, (S14.take 1)⟩
 obtain rfl : i = rs.length := by omega
 rw [← dl_len (rs := rs), List.take_length] at hvo
 refine r_exit rfl ?_
 refine r_seq ?_
 refine r_region ?_
 refine l_a rfl ?_
 have S19 := S1.nilvec (E := ED)
 refine l_nil ?_
 refine r_seq ?_
 refine r_seq ?_
 refine r_region ?_
 refine l_m rfl ?_
 refine l_x rfl (x_len (hD.rd.le S19.le) rfl Tryz.runUnderlying23) ?_
 refine l_m rfl ?_
 refine l_nil ?_
 refine r_block ?_
 refine r_loop (G := Nat × Value) (fun ⟨i, vo⟩ => rs.length - i) (fun ⟨i, vo⟩ => [(1, .int .i64 known), (5, .map (some m4)), (8, vo), (31, vl), (32, .int .i64 rs.length), (33, .int .i64 i)]) (fun ⟨i, vo⟩ w' => (i ≤ rs.length) ∧ Own nob w w' [mapr kInt Value.bool m4 (setM vs), vec ED vo ((rs.take i).filter (fun a : Rw => counts (dl rs) known a.1))]) (0, .slice none 0 0) ⟨rfl, rfl, rfl, rfl, rfl, rfl, trivial⟩ ⟨Nat.zero_le _, (S19.take 2)⟩ ?_
 rintro ⟨i, vo⟩ ρ w1b ⟨hi, S1b⟩ IHb
 refine r_seq ?_
 refine r_region ?_
 refine l_x rfl (x_lss rfl rfl) ?_
 refine l_nil ?_
 refine r_seq ?_
 refine r_ifd rfl (fun hc34 => ?_) (fun hc34 => ?_)
 ·skip
  obtain ⟨a, ha⟩ : ∃ a, rs[i]? = some a := ⟨_, List.getElem?_eq_getElem (by omega)⟩
  have ham := List.mem_of_getElem? ha
  refine r_skip ?_
  refine r_seq ?_
  refine r_block ?_
  refine r_seq ?_
  refine r_region ?_
  refine l_index ED rfl (hD.rd.le S1b.le) rfl rfl Tryz.runUnderlying23 Tryz.sizeOf26 (by omega) ha ?_
  intro b20 o21 hat22 row23
  refine l_x rfl (x_load rfl (ld_row Tryz.isAgg26 Tryz.sizeOf26 rfl row23)) ?_
  refine l_alloc S1b rfl Tryz.zeroValue26 rfl ?_
  intro b27 w24 S25 hl26
  refine l_stores S25 2 rfl rfl rfl rfl (ED.one _) Tryz.sizeOf26 (by first | exact Nat.le_refl _ | simp) (splice_all rfl) ?_
  intro w28 S29 hk30
  refine l_nil ?_
  refine r_seq ?_
  refine r_region ?_
  refine l_x rfl (x_fieldAddr rfl Tryz.runUnderlying26 rfl Tryz.sizeOf5 (by decide)) ?_
  refine l_x rfl (x_load rfl (ld_blk (S29.blk 2 rfl) Tryz.isAgg5 rfl)) ?_
  refine l_x rfl (x_neq rfl rfl) ?_
  refine l_m rfl ?_
  refine l_splitd (d := 40) rfl (fun hg40 => ?_) (fun hg40 => ?_)
  ·skip
   refine l_x rfl (x_fieldAddr rfl Tryz.runUnderlying26 rfl Tryz.sizeOf3 (by decide)) ?_
   refine l_x rfl (x_load rfl (ld_blk (S29.blk 2 rfl) Tryz.isAgg3 rfl)) ?_
   refine l_m rfl ?_
   refine l_x rfl (x_leq rfl rfl) ?_
   refine l_x rfl (x_pick_t rfl rfl) ?_
   refine l_m rfl ?_
   refine l_splitd (d := 46) rfl (fun hg46 => ?_) (fun hg46 => ?_)
   ·skip
    refine l_m rfl ?_
    refine l_x rfl (x_fieldAddr rfl Tryz.runUnderlying26 rfl Tryz.sizeOf3 (by decide)) ?_
    refine l_x rfl (x_load rfl (ld_blk (S29.blk 2 rfl) Tryz.isAgg3 rfl)) ?_
    refine l_x rfl (x_lookup (S29.at 0 rfl) keyI Tryz.runUnderlying121 rfl rfl Tryz.zeroValue4 setM_get) ?_
    refine l_x rfl (x_not rfl) ?_
    refine l_x rfl (x_pick_t rfl rfl) ?_
    refine l_nil ?_
    refine r_if rfl (fun hc52 => ?_) (fun hc52 => ?_)
    ·skip
     refine r_region ?_
     refine l_m rfl ?_
     refine l_x rfl (x_load rfl (ld_blks (S29.blk 2 rfl) Tryz.isAgg26 Tryz.sizeOf26 rfl rfl)) ?_
     refine l_buildSlice ED [a] S29 rfl Tryz.runUnderlying23 Tryz.sizeOf26 Tryz.zeroValue26 rfl ⟨rfl, rfl, trivial⟩ (Nat.le_of_ble_eq_true rfl) ?_
     intro v34 w31 S32 hl33
     refine l_append ED S32 1 rfl rfl rfl rfl (vec_rd (S32.at 3 rfl)) Tryz.underlying23 info26 rfl rfl rfl (by have := hfl i; rw [List.length_take] at this; unfold maxLen; simp; omega) (by have := hfl i; rw [List.length_take] at this; show _ * 120 ≤ _; simp; omega) ?_
     intro v38 w35 S36 hk37 hv39
     refine l_a rfl ?_
     refine l_nil ?_
     refine r_inBlock ?_
     refine r_region ?_
     refine l_x rfl (x_add rfl rfl (by omega)) ?_
     refine l_m rfl ?_
     refine l_nil ?_
     exact IHb (i + 1, v38) _ _ (by dsimp only; omega) ⟨rfl, rfl, rfl, rfl, rfl, rfl, trivial⟩ ⟨by omega, (by rw [filter_step ha, if_pos (by simp only [counts]; first | (simp_all; done) | (simp_all; intros; omega))]; exact S36.take 2)⟩
    refine r_skip ?_
    refine r_inBlock ?_
    refine r_region ?_
    refine l_x rfl (x_add rfl rfl (by omega)) ?_
    refine l_m rfl ?_
    refine l_nil ?_
    exact IHb (i + 1, vo) _ _ (by dsimp only; omega) ⟨rfl, rfl, rfl, rfl, rfl, rfl, trivial⟩ ⟨by omega, (by rw [filter_step ha, if_neg (by simp only [counts]; first | (simp_all; done) | (simp_all; intros; omega))]; rw [List.append_nil]; exact S29.take 2)⟩
   refine l_pass rfl ?_
   refine l_pass rfl ?_
   refine l_pass rfl ?_
   refine l_pass rfl ?_
   refine l_pass rfl ?_
   refine l_x rfl (x_pick_f rfl rfl) ?_
   refine l_nil ?_
   refine r_false rfl ?_
   refine r_skip ?_
   refine r_inBlock ?_
   refine r_region ?_
   refine l_x rfl (x_add rfl rfl (by omega)) ?_
   refine l_m rfl ?_
   refine l_nil ?_
   exact IHb (i + 1, vo) _ _ (by dsimp only; omega) ⟨rfl, rfl, rfl, rfl, rfl, rfl, trivial⟩ ⟨by omega, (by rw [filter_step ha, if_neg (by simp only [counts]; first | (simp_all; done) | (simp_all; intros; omega))]; rw [List.append_nil]; exact S29.take 2)⟩
  refine l_pass rfl ?_
  refine l_pass rfl ?_
  refine l_pass rfl ?_
  refine l_pass rfl ?_
  refine l_x rfl (x_pick_f rfl rfl) ?_
  refine l_m rfl ?_
  refine l_pass rfl ?_
  refine l_pass rfl ?_
  refine l_pass rfl ?_
  refine l_pass rfl ?_
  refine l_pass rfl ?_
  refine l_x rfl (x_pick_f rfl rfl) ?_
  refine l_nil ?_
  refine r_false rfl ?_
  refine r_skip ?_
  refine r_inBlock ?_
  refine r_region ?_
  refine l_x rfl (x_add rfl rfl (by omega)) ?_
  refine l_m rfl ?_
  refine l_nil ?_
  exact IHb (i + 1, vo) _ _ (by dsimp only; omega) ⟨rfl, rfl, rfl, rfl, rfl, rfl, trivial⟩ ⟨by omega, (by rw [filter_step ha, if_neg (by simp only [counts]; first | (simp_all; done) | (simp_all; intros; omega))]; rw [List.append_nil]; exact S29.take 2)⟩
 obtain rfl : i = rs.length := by omega
 refine r_exit rfl ?_
 refine r_seq ?_
 refine r_region ?_
 refine l_m rfl ?_
 refine l_call [] [] [_, _] rfl rfl Tryz.call151 rfl (c_sortedDeed _ _ (by omega) _ (vec_rd (S1b.at 1 rfl))) ?_
 rintro v5940 w40 ⟨l5940, hp5940, hs5940, hN5940, hl5940⟩
 have S41 := S1b.add hl5940 hN5940
 refine l_a rfl ?_
 refine l_nil ?_
 refine r_ret (rs := [.tmp 4]) [_] Tryz.func106 rfl ⟨rfl, trivial⟩ ?_
 exact ⟨l5940, by rw [order_of hp5940 hs5940 (by rw [List.take_length, dl_filter]; exact asc_filter hA _), List.take_length, dl_filter]; rfl, fun a ha => by have := hp5940.mem_iff.1 ha; rw [List.take_length] at this; exact (List.mem_filter.1 this).1, S41.new 2 rfl, S41.le⟩

end Go.Proofs

namespace Go.Proofs
open Go Go.Vk Go.Vk.Flow

open Go.Vk.Deed

set_option maxHeartbeats 2000000 in
theorem c_copied (rs : List Rw) (vl : Value) (hml4 : rs.length ≤ 1000000) (hh : ∀ a ∈ rs, a.1.heirs.length ≤ 1000000000 ∧ a.1.shares.length ≤ 1000000000) (w : World) (hD : DsR 26 3 w vl rs) :
  Cl Tryz.prog 102 #[vl] w fun v w' => ∃ rs', dl rs' = dl rs ∧ Own nob w w' [vec ED v rs', pack (dnest 3 rs')] := by
 have hml := hD.lm
 refine fn_of_run (args := [_]) 34 Tryz.func102 rfl rfl rfl fun cs => ?_
 have S := Own.start (X := nob) w
 refine r_seq ?_
 refine r_region ?_
 refine l_a rfl ?_
 refine l_nil ?_
 refine r_seq ?_
 refine r_region ?_
 refine l_m rfl ?_
 refine l_call [] [] [_] rfl rfl Tryz.call103 rfl (c_CloneDeed _ _ (by omega) _ (hD.rd.le S.le)) ?_
 rintro v61 w1 ⟨hN61, hl61⟩
 have S2 := S.add hl61 hN61
 refine l_a rfl ?_
 refine l_nil ?_
 refine r_seq ?_
 refine r_seq ?_
 refine r_region ?_
 refine l_m rfl ?_
 refine l_x rfl (x_len (vec_rd (S2.at 0 rfl)) rfl Tryz.runUnderlying23) ?_
 refine l_m rfl ?_
 refine l_nil ?_
 refine r_block ?_
 refine r_loop (G := Nat × List Rw) (fun ⟨i, done⟩ => rs.length - i) (fun ⟨i, done⟩ => [(3, v61), (8, .int .i64 rs.length), (9, .int .i64 i)]) (fun ⟨i, done⟩ w' => (i ≤ rs.length) ∧ (done.length = i) ∧ (dl done = dl (rs.take i)) ∧ Own nob w w' [vec ED v61 (done ++ rs.drop i), pack (dnest 3 done)]) (0, []) ⟨rfl, rfl, rfl, trivial⟩ ⟨Nat.zero_le _, rfl, rfl, (by rw [List.drop_zero]; exact Own.nopack S2)⟩ ?_
 rintro ⟨i, done⟩ ρ w1 ⟨hi, hdn, hdd, S1⟩ IH
 refine r_seq ?_
 refine r_region ?_
 refine l_x rfl (x_lss rfl rfl) ?_
 refine l_nil ?_
 refine r_seq ?_
 refine r_ifd rfl (fun hc10 => ?_) (fun hc10 => ?_)
 ·skip
  obtain ⟨a, ha⟩ : ∃ a, rs[i]? = some a := ⟨_, List.getElem?_eq_getElem (by omega)⟩
  have ham := List.mem_of_getElem? ha
  have hlh := hh a ham
  have hg0 := put_get hdn ha
  refine r_skip ?_
  refine r_seq ?_
  refine r_block ?_
  refine r_seq ?_
  refine r_region ?_
  refine l_m rfl ?_
  refine l_a rfl ?_
  refine l_nil ?_
  refine r_drawE 19 (Rsc.fp (vec ED v61 (done ++ rs.drop i))) Tryz.mixed (by kernel_rfl) ?_
  intro w3 hl4
  have S5 := S1.step hl4
  refine e_exact 0 _ (by kernel_rfl) rfl rfl (by kernel_rfl) rfl (ex_x rfl (fun w1 h1 => x_mv rfl)) ?_
  refine e_exact 1 _ (by kernel_rfl) rfl rfl (by kernel_rfl) rfl (ex_x rfl (fun w1 h1 => x_mv rfl)) ?_
  refine e_exact 2 _ (by kernel_rfl) rfl rfl (by kernel_rfl) rfl (ex_x rfl (fun w1 h1 => x_mv rfl)) ?_
  refine e_exact 3 _ (by kernel_rfl) rfl rfl (by kernel_rfl) rfl (ex_x rfl (fun w1 h1 => x_mv rfl)) ?_
  refine e_exact 4 _ (by kernel_rfl) rfl rfl (by kernel_rfl) rfl (ex_x rfl (fun w1 h1 => x_mv rfl)) ?_
  refine e_exact 5 _ (by kernel_rfl) rfl rfl (by kernel_rfl) rfl (ex_x rfl (fun w1 h1 => x_mv rfl)) ?_
  refine e_index ED 6 (by kernel_rfl) rfl rfl (by kernel_rfl) rfl rfl (vec_rd (S5.at 0 rfl)) rfl rfl Tryz.runUnderlying23 Tryz.sizeOf26 (by omega) hg0 ?_
  intro b6 o7 hat8
  refine e_exact 7 _ (by kernel_rfl) rfl rfl (by kernel_rfl) rfl (ex_x rfl (fun w1 h1 => x_fieldAddr rfl Tryz.runUnderlying26 rfl Tryz.sizeOf24 (by decide))) ?_
  refine e_exact 10 _ (by kernel_rfl) rfl rfl (by kernel_rfl) rfl (ex_x rfl (fun w1 h1 => x_mv rfl)) ?_
  refine e_exact 11 _ (by kernel_rfl) rfl rfl (by kernel_rfl) rfl (ex_x rfl (fun w1 h1 => x_mv rfl)) ?_
  refine e_index ED 12 (by kernel_rfl) rfl rfl (by kernel_rfl) rfl rfl (vec_rd (S5.at 0 rfl)) rfl rfl Tryz.runUnderlying23 Tryz.sizeOf26 (by omega) hg0 ?_
  intro b9 o10 hat11
  refine e_exact 13 _ (by kernel_rfl) rfl rfl (by kernel_rfl) rfl (ex_x rfl (fun w1 h1 => x_fieldAddr rfl Tryz.runUnderlying26 rfl Tryz.sizeOf24 (by decide))) ?_
  refine e_next [8, 14] (by kernel_rfl) (by kernel_rfl) ⟨⟨_, _, rfl, rfl, ?_⟩, ⟨_, _, rfl, rfl, ?_⟩, trivial⟩
  ·skip
   refine s_x rfl (x_load rfl (ld_cell Tryz.isAgg24 ((rd_row (vec_rd (S5.at 0 rfl)) hat8 hg0) 9 _ rfl))) ?_
   refine ⟨Keep.refl _ _, ?_⟩
   refine e_next [9, 14] (by kernel_rfl) (by kernel_rfl) ⟨⟨_, _, rfl, rfl, ?_⟩, ⟨_, _, rfl, rfl, ?_⟩, trivial⟩
   ·skip
    refine s_callf [] [] [_] rfl rfl Tryz.call148 rfl ((c_CloneInt _ _ (by first | exact hlh.1 | exact hlh.2) _ ((hD.sub a ham).1.le S5.le)).mono ?_)
    rintro v2112 w12 ⟨hN2112, hl2112⟩
    obtain ⟨d2112, rfl⟩ := rd_hv (vec_rd hN2112.ok)
    have S13 := S5.add hl2112 hN2112
    refine ⟨.of_le hl2112, ?_⟩
    refine e_next [14] (by kernel_rfl) (by kernel_rfl) ⟨⟨_, _, rfl, rfl, ?_⟩, trivial⟩
    refine s_x rfl (x_load rfl (ld_cell Tryz.isAgg24 ((rd_row (vec_rd (S13.at 0 rfl)) hat11 hg0) 10 _ rfl))) ?_
    refine ⟨Keep.refl _ _, ?_⟩
    refine e_next [15] (by kernel_rfl) (by kernel_rfl) ⟨⟨_, _, rfl, rfl, ?_⟩, trivial⟩
    refine s_callf [] [] [_] rfl rfl Tryz.call148 rfl ((c_CloneInt _ _ (by first | exact hlh.1 | exact hlh.2) _ ((hD.sub a ham).2.le S13.le)).mono ?_)
    rintro v2714 w14 ⟨hN2714, hl2714⟩
    obtain ⟨d2714, rfl⟩ := rd_hv (vec_rd hN2714.ok)
    have S15 := S13.add hl2714 hN2714
    refine ⟨.of_le hl2714, ?_⟩
    refine e_index ED 16 (by kernel_rfl) rfl rfl (by kernel_rfl) rfl rfl (vec_rd (S15.at 0 rfl)) rfl rfl Tryz.runUnderlying23 Tryz.sizeOf26 (by omega) hg0 ?_
    intro b16 o17 hat18
    refine e_exact 17 _ (by kernel_rfl) rfl rfl (by kernel_rfl) rfl (ex_x rfl (fun w1 h1 => x_fieldAddr rfl Tryz.runUnderlying26 rfl Tryz.sizeOf24 (by decide))) ?_
    refine e_next [18] (by kernel_rfl) (by kernel_rfl) ⟨⟨_, _, rfl, rfl, ?_⟩, trivial⟩
    refine s_storev1 (a' := (a.1, d2112, a.2.2)) (f := 9) S15 0 rfl rfl hat18 rfl rfl (Rd.one (vec_rd (S15.at 2 rfl))) Tryz.sizeOf24 hg0 (by decide) rfl ?_
    intro w19 S20 hk21
    refine ⟨hk21, ?_⟩
    refine e_done (by kernel_rfl) ?_
    refine l_index ED rfl (vec_rd (S20.at 0 rfl)) rfl rfl Tryz.runUnderlying23 Tryz.sizeOf26 (by omega) (put_get2 hdn ha) ?_
    intro b22 o23 hat24 row25
    refine l_x rfl (x_fieldAddr rfl Tryz.runUnderlying26 rfl Tryz.sizeOf24 (by decide)) ?_
    refine l_storev1 (a' := (a.1, d2112, d2714)) (f := 10) S20 0 rfl rfl hat24 rfl rfl (Rd.one (vec_rd (S20.at 3 rfl))) Tryz.sizeOf24 (put_get2 hdn ha) (by decide) rfl ?_
    intro w26 S27 hk28
    refine l_nil ?_
    refine r_inBlock ?_
    refine r_region ?_
    refine l_x rfl (x_add rfl rfl (by omega)) ?_
    refine l_m rfl ?_
    refine l_nil ?_
    have Sx := S27.pick (L' := [_, _, _, _]) [0, 3, 1, 2] (by decide) rfl
    have Sx := Own.into (A := [_, _]) Sx
    have Sy := Sx.pick (L' := [_, _, _]) [0, 2, 1] (by decide) rfl
    have Sz := Own.into (A := [_]) Sy
    rw [← dnest_snoc (a := (a.1, d2112, d2714)), Int.toNat_natCast, put_set2 hdn ha] at Sz
    exact IH (i + 1, done ++ [(a.1, d2112, d2714)]) _ _ (by dsimp only; omega) ⟨rfl, rfl, rfl, trivial⟩ ⟨by omega, by rw [List.length_append, hdn]; rfl, copy_step hdd ha, Sz⟩
   refine s_x rfl (x_load rfl (ld_cell Tryz.isAgg24 ((rd_row (vec_rd (S5.at 0 rfl)) hat11 hg0) 10 _ rfl))) ?_
   refine ⟨Keep.refl _ _, ?_⟩
   refine e_next [9] (by kernel_rfl) (by kernel_rfl) ⟨⟨_, _, rfl, rfl, ?_⟩, trivial⟩
   refine s_callf [] [] [_] rfl rfl Tryz.call148 rfl ((c_CloneInt _ _ (by first | exact hlh.1 | exact hlh.2) _ ((hD.sub a ham).1.le S5.le)).mono ?_)
   rintro v2129 w29 ⟨hN2129, hl2129⟩
   obtain ⟨d2129, rfl⟩ := rd_hv (vec_rd hN2129.ok)
   have S30 := S5.add hl2129 hN2129
   refine ⟨.of_le hl2129, ?_⟩
   refine e_next [15] (by kernel_rfl) (by kernel_rfl) ⟨⟨_, _, rfl, rfl, ?_⟩, trivial⟩
   refine s_callf [] [] [_] rfl rfl Tryz.call148 rfl ((c_CloneInt _ _ (by first | exact hlh.1 | exact hlh.2) _ ((hD.sub a ham).2.le S30.le)).mono ?_)
   rintro v2731 w31 ⟨hN2731, hl2731⟩
   obtain ⟨d2731, rfl⟩ := rd_hv (vec_rd hN2731.ok)
   have S32 := S30.add hl2731 hN2731
   refine ⟨.of_le hl2731, ?_⟩
   refine e_index ED 16 (by kernel_rfl) rfl rfl (by kernel_rfl) rfl rfl (vec_rd (S32.at 0 rfl)) rfl rfl Tryz.runUnderlying23 Tryz.sizeOf26 (by omega) hg0 ?_
   intro b33 o34 hat35
   refine e_exact 17 _ (by kernel_rfl) rfl rfl (by kernel_rfl) rfl (ex_x rfl (fun w1 h1 => x_fieldAddr rfl Tryz.runUnderlying26 rfl Tryz.sizeOf24 (by decide))) ?_
   refine e_next [18] (by kernel_rfl) (by kernel_rfl) ⟨⟨_, _, rfl, rfl, ?_⟩, trivial⟩
   refine s_storev1 (a' := (a.1, d2129, a.2.2)) (f := 9) S32 0 rfl rfl hat35 rfl rfl (Rd.one (vec_rd (S32.at 2 rfl))) Tryz.sizeOf24 hg0 (by decide) rfl ?_
   intro w36 S37 hk38
   refine ⟨hk38, ?_⟩
   refine e_done (by kernel_rfl) ?_
   refine l_index ED rfl (vec_rd (S37.at 0 rfl)) rfl rfl Tryz.runUnderlying23 Tryz.sizeOf26 (by omega) (put_get2 hdn ha) ?_
   intro b39 o40 hat41 row42
   refine l_x rfl (x_fieldAddr rfl Tryz.runUnderlying26 rfl Tryz.sizeOf24 (by decide)) ?_
   refine l_storev1 (a' := (a.1, d2129, d2731)) (f := 10) S37 0 rfl rfl hat41 rfl rfl (Rd.one (vec_rd (S37.at 3 rfl))) Tryz.sizeOf24 (put_get2 hdn ha) (by decide) rfl ?_
   intro w43 S44 hk45
   refine l_nil ?_
   refine r_inBlock ?_
   refine r_region ?_
   refine l_x rfl (x_add rfl rfl (by omega)) ?_
   refine l_m rfl ?_
   refine l_nil ?_
   have Sx := S44.pick (L' := [_, _, _, _]) [0, 3, 1, 2] (by decide) rfl
   have Sx := Own.into (A := [_, _]) Sx
   have Sy := Sx.pick (L' := [_, _, _]) [0, 2, 1] (by decide) rfl
   have Sz := Own.into (A := [_]) Sy
   rw [← dnest_snoc (a := (a.1, d2129, d2731)), Int.toNat_natCast, put_set2 hdn ha] at Sz
   exact IH (i + 1, done ++ [(a.1, d2129, d2731)]) _ _ (by dsimp only; omega) ⟨rfl, rfl, rfl, trivial⟩ ⟨by omega, by rw [List.length_append, hdn]; rfl, copy_step hdd ha, Sz⟩
  refine s_x rfl (x_load rfl (ld_cell Tryz.isAgg24 ((rd_row (vec_rd (S5.at 0 rfl)) hat11 hg0) 10 _ rfl))) ?_
  refine ⟨Keep.refl _ _, ?_⟩
  refine e_next [8] (by kernel_rfl) (by kernel_rfl) ⟨⟨_, _, rfl, rfl, ?_⟩, trivial⟩
  refine s_x rfl (x_load rfl (ld_cell Tryz.isAgg24 ((rd_row (vec_rd (S5.at 0 rfl)) hat8 hg0) 9 _ rfl))) ?_
  refine ⟨Keep.refl _ _, ?_⟩
  refine e_next [9] (by kernel_rfl) (by kernel_rfl) ⟨⟨_, _, rfl, rfl, ?_⟩, trivial⟩
  refine s_callf [] [] [_] rfl rfl Tryz.call148 rfl ((c_CloneInt _ _ (by first | exact hlh.1 | exact hlh.2) _ ((hD.sub a ham).1.le S5.le)).mono ?_)
  rintro v2146 w46 ⟨hN2146, hl2146⟩
  obtain ⟨d2146, rfl⟩ := rd_hv (vec_rd hN2146.ok)
  have S47 := S5.add hl2146 hN2146
  refine ⟨.of_le hl2146, ?_⟩
  refine e_next [15] (by kernel_rfl) (by kernel_rfl) ⟨⟨_, _, rfl, rfl, ?_⟩, trivial⟩
  refine s_callf [] [] [_] rfl rfl Tryz.call148 rfl ((c_CloneInt _ _ (by first | exact hlh.1 | exact hlh.2) _ ((hD.sub a ham).2.le S47.le)).mono ?_)
  rintro v2748 w48 ⟨hN2748, hl2748⟩
  obtain ⟨d2748, rfl⟩ := rd_hv (vec_rd hN2748.ok)
  have S49 := S47.add hl2748 hN2748
  refine ⟨.of_le hl2748, ?_⟩
  refine e_index ED 16 (by kernel_rfl) rfl rfl (by kernel_rfl) rfl rfl (vec_rd (S49.at 0 rfl)) rfl rfl Tryz.runUnderlying23 Tryz.sizeOf26 (by omega) hg0 ?_
  intro b50 o51 hat52
  refine e_exact 17 _ (by kernel_rfl) rfl rfl (by kernel_rfl) rfl (ex_x rfl (fun w1 h1 => x_fieldAddr rfl Tryz.runUnderlying26 rfl Tryz.sizeOf24 (by decide))) ?_
  refine e_next [18] (by kernel_rfl) (by kernel_rfl) ⟨⟨_, _, rfl, rfl, ?_⟩, trivial⟩
  refine s_storev1 (a' := (a.1, d2146, a.2.2)) (f := 9) S49 0 rfl rfl hat52 rfl rfl (Rd.one (vec_rd (S49.at 2 rfl))) Tryz.sizeOf24 hg0 (by decide) rfl ?_
  intro w53 S54 hk55
  refine ⟨hk55, ?_⟩
  refine e_done (by kernel_rfl) ?_
  refine l_index ED rfl (vec_rd (S54.at 0 rfl)) rfl rfl Tryz.runUnderlying23 Tryz.sizeOf26 (by omega) (put_get2 hdn ha) ?_
  intro b56 o57 hat58 row59
  refine l_x rfl (x_fieldAddr rfl Tryz.runUnderlying26 rfl Tryz.sizeOf24 (by decide)) ?_
  refine l_storev1 (a' := (a.1, d2146, d2748)) (f := 10) S54 0 rfl rfl hat58 rfl rfl (Rd.one (vec_rd (S54.at 3 rfl))) Tryz.sizeOf24 (put_get2 hdn ha) (by decide) rfl ?_
  intro w60 S61 hk62
  refine l_nil ?_
  refine r_inBlock ?_
  refine r_region ?_
  refine l_x rfl (x_add rfl rfl (by omega)) ?_
  refine l_m rfl ?_
  refine l_nil ?_
  have Sx := S61.pick (L' := [_, _, _, _]) [0, 3, 1, 2] (by decide) rfl
  have Sx := Own.into (A := [_, _]) Sx
  have Sy := Sx.pick (L' := [_, _, _]) [0, 2, 1] (by decide) rfl
  have Sz := Own.into (A := [_]) Sy
  rw [← dnest_snoc (a := (a.1, d2146, d2748)), Int.toNat_natCast, put_set2 hdn ha] at Sz
  exact IH (i + 1, done ++ [(a.1, d2146, d2748)]) _ _ (by dsimp only; omega) ⟨rfl, rfl, rfl, trivial⟩ ⟨by omega, by rw [List.length_append, hdn]; rfl, copy_step hdd ha, Sz⟩
 obtain rfl : i = rs.length := by omega
 rw [List.take_length] at hdd
 rw [List.drop_length, List.append_nil] at S1
 refine r_exit rfl ?_
 refine r_seq ?_
 refine r_region ?_
 refine l_m rfl ?_
 refine l_a rfl ?_
 refine l_nil ?_
 refine r_ret (rs := [.tmp 2]) [_] Tryz.func102 rfl ⟨rfl, trivial⟩ ?_
 exact ⟨done, hdd, S1⟩

theorem ix_step {l : List Int} {i : Nat} {a x : Int} (h : ∀ y ∈ l.take i, decide (y = x) = false) (ha : l[i]? = some a) (hn : ¬ a = x) : ∀ y ∈ l.take (i + 1), decide (y = x) = false := by
 intro y hy
 rw [List.take_add_one, ha] at hy
 rcases List.mem_append.1 hy with g | g
 ·exact h y g
 simp at g; subst g; exact decide_eq_false hn
theorem ix_contains (l : List Int) (x : Int) : decide (0 ≤ idx (fun y : Int => decide (y = x)) l) = l.contains x := by
 rw [Bool.eq_iff_iff, decide_eq_true_iff, idx_ge, List.any_eq_true, List.contains_iff_mem]
 constructor
 ·rintro ⟨y, hy, e⟩; simp at e; subst e; exact hy
 intro h; exact ⟨x, h, by simp⟩

theorem c_Index (l : List Int) (vl : Value) (x : Int) (hm : l.length ≤ 9223372036854775807) (w : World) (hL : Rd EI w vl l) :
  Cl Tryz.prog 135 #[vl, .int .i64 x] w fun v w' => v = .int .i64 (idx (fun y : Int => decide (y = x)) l) ∧ Le w w' := by
 refine fn_of_run (args := [_, _]) 19 Tryz.func135 rfl rfl rfl fun cs => ?_
 have S := Own.start (X := nob) w
 refine r_seq ?_
 refine r_region ?_
 refine l_a rfl ?_
 refine l_nil ?_
 refine r_seq ?_
 refine r_seq ?_
 refine r_region ?_
 refine l_m rfl ?_
 refine l_x rfl (x_len (hL.le S.le) rfl Tryz.runUnderlying24) ?_
 refine l_m rfl ?_
 refine l_nil ?_
 refine r_block ?_
 refine r_loop (G := Nat) (fun i => l.length - i) (fun i => [(0, vl), (1, .int .i64 x), (7, .int .i64 l.length), (8, .int .i64 i)]) (fun i w' => (i ≤ l.length) ∧ (∀ y ∈ l.take i, decide (y = x) = false) ∧ Own nob w w' []) 0 ⟨rfl, rfl, rfl, rfl, trivial⟩ ⟨Nat.zero_le _, by simp, S⟩ ?_
 rintro i ρ w1 ⟨hi, hno, S1⟩ IH
 refine r_seq ?_
 refine r_region ?_
 refine l_x rfl (x_lss rfl rfl) ?_
 refine l_nil ?_
 refine r_seq ?_
 refine r_ifd rfl (fun hc9 => ?_) (fun hc9 => ?_)
 ·skip
  obtain ⟨a, ha⟩ : ∃ a, l[i]? = some a := ⟨_, List.getElem?_eq_getElem (by omega)⟩
  refine r_skip ?_
  refine r_seq ?_
  refine r_block ?_
  refine r_seq ?_
  refine r_region ?_
  refine l_m rfl ?_
  refine l_a rfl ?_
  refine l_nil ?_
  refine r_seq ?_
  refine r_region ?_
  refine l_m rfl ?_
  refine l_m rfl ?_
  refine l_m rfl ?_
  refine l_index EI rfl (hL.le S1.le) rfl rfl Tryz.runUnderlying24 Tryz.sizeOf3 (by omega) (by first | assumption | exact List.getElem?_eq_getElem (by omega)) ?_
  intro b1 o2 hat3 row4
  refine l_x rfl (x_load rfl (ld_cell Tryz.isAgg3 (row4 0 _ rfl))) ?_
  refine l_x rfl (x_eql rfl rfl) ?_
  refine l_nil ?_
  refine r_ifd rfl (fun hc16 => ?_) (fun hc16 => ?_)
  ·skip
   refine r_seq ?_
   refine r_region ?_
   refine l_m rfl ?_
   refine l_a rfl ?_
   refine l_nil ?_
   refine r_ret (rs := [.tmp 4]) [_] Tryz.func135 rfl ⟨rfl, trivial⟩ ?_
   exact ⟨congrArg (Value.int .i64) (idx_at ha (decide_eq_true hc16.symm) hno).symm, S1.le⟩
  refine r_skip ?_
  refine r_inBlock ?_
  refine r_region ?_
  refine l_x rfl (x_add rfl rfl (by omega)) ?_
  refine l_m rfl ?_
  refine l_nil ?_
  exact IH (i + 1) _ _ (by omega) ⟨rfl, rfl, rfl, rfl, trivial⟩ ⟨by omega, ix_step hno ha (fun e => hc16 e.symm), S1⟩
 obtain rfl : i = l.length := by omega
 rw [List.take_length] at hno
 refine r_exit rfl ?_
 refine r_seq ?_
 refine r_region ?_
 refine l_a rfl ?_
 refine l_nil ?_
 refine r_ret (rs := [.tmp 4]) [_] Tryz.func135 rfl ⟨rfl, trivial⟩ ?_
 exact ⟨congrArg (Value.int .i64) (idx_none hno).symm, S1.le⟩

theorem c_Contains (l : List Int) (vl : Value) (x : Int) (hm : l.length ≤ 9223372036854775807) (w : World) (hL : Rd EI w vl l) :
  Cl Tryz.prog 83 #[vl, .int .i64 x] w fun v w' => v = .bool (l.contains x) ∧ Le w w' := by
 refine fn_of_run (args := [_, _]) 9 Tryz.func83 rfl rfl rfl fun cs => ?_
 have S := Own.start (X := nob) w
 refine r_seq ?_
 refine r_region ?_
 refine l_a rfl ?_
 refine l_nil ?_
 refine r_seq ?_
 refine r_region ?_
 refine l_m rfl ?_
 refine l_m rfl ?_
 refine l_call [] [] [_, _] rfl rfl Tryz.call135 rfl (c_Index _ _ _ hm _ (hL.le S.le)) ?_
 rintro _ w1 ⟨rfl, hl3⟩
 have S2 := S.step hl3
 refine l_x rfl (x_geq rfl rfl) ?_
 refine l_a rfl ?_
 refine l_nil ?_
 refine r_ret (rs := [.tmp 4]) [_] Tryz.func83 rfl ⟨rfl, trivial⟩ ?_
 exact ⟨congrArg Value.bool (ix_contains l x), S2.le⟩

theorem count_len {l : List D} {known : Int} (h : rightD l = true) : (counting l known).length ≤ 400 := by
 have h1 := (order_perm (l.filter (counts l known))).length_eq
 have h2 := List.length_filter_le (counts l known) l
 have h3 := right_len h
 rw [counting]; omega
theorem mem_dl {rs : List Rw} {a : Rw} (h : a ∈ rs) : a.1 ∈ dl rs := List.mem_map.2 ⟨a, h, rfl⟩
theorem lens_of {rs : List Rw} (h : ∀ x ∈ dl rs, formed x = true) : ∀ a ∈ rs, a.1.heirs.length ≤ 1000000000 ∧ a.1.shares.length ≤ 1000000000 := fun a ha => by
 have := formed_lens (h a.1 (mem_dl ha)); omega

set_option maxHeartbeats 2000000 in
theorem c_Append (rs : List Rw) (vl : Value) (a : Rw) (w : World) (hD : DsR 26 3 w vl rs) (hA : SubR 3 w a) :
  Cl Tryz.prog 42 #[vl, .agg (encD a).toArray] w fun v w' => ∃ s rs' e, v = .tuple #[s, .int .i64 e] ∧ e = (appendD (dl rs) a.1).1 ∧ dl rs' = (appendD (dl rs) a.1).2 ∧ Own nob w w' [vec ED s rs', pack (dnest 3 rs')] := by
 refine fn_of_run (args := [_, _]) 29 Tryz.func42 rfl rfl rfl fun cs => ?_
 have S := Own.start (X := nob) w
 refine r_seq ?_
 refine r_region ?_
 refine l_box S rfl rfl ?_
 intro b4 w1 S2 hl3
 refine l_a rfl ?_
 refine l_a rfl ?_
 refine l_nil ?_
 refine r_seq ?_
 refine r_seq ?_
 refine r_region ?_
 refine l_m rfl ?_
 refine l_call [] [] [_] rfl rfl Tryz.call21 rfl (c_Check rs _ _ (hD.le S2.le)) ?_
 rintro _ w5 ⟨rfl, hl7⟩
 have S6 := S2.step hl7
 refine l_m rfl ?_
 refine l_x rfl (x_extract rfl rfl) ?_
 refine l_x rfl (x_extract rfl rfl) ?_
 refine l_a rfl ?_
 refine l_a rfl ?_
 refine l_nil ?_
 refine r_seq ?_
 refine r_region ?_
 refine l_m rfl ?_
 refine l_x rfl (x_neq rfl rfl) ?_
 refine l_nil ?_
 refine r_ifd rfl (fun hc15 => ?_) (fun hc15 => ?_)
 ·skip
  refine r_seq ?_
  refine r_region ?_
  refine l_m rfl ?_
  refine l_a rfl ?_
  refine l_a rfl ?_
  refine l_nil ?_
  refine r_ret (rs := [.tmp 4, .tmp 5]) [_, _] Tryz.func42 rfl ⟨rfl, rfl, trivial⟩ ?_
  exact ⟨_, [], _, rfl, by rw [app_bad hc15], by rw [app_bad hc15]; rfl, Own.nopack (Own.nilvec (S6.take 0))⟩
 have h0 := Decidable.not_not.1 hc15
 have hR := right_of0 h0
 have hlr := right_len hR
 rw [dl_len] at hlr
 refine r_skip ?_
 refine r_seq ?_
 refine r_seq ?_
 refine r_region ?_
 refine l_m rfl ?_
 refine l_x rfl (x_load rfl (ld_blks (S6.blk 0 rfl) Tryz.isAgg26 Tryz.sizeOf26 rfl rfl)) ?_
 refine l_call [] [] [_, _] rfl rfl Tryz.call79 rfl (c_follows rs _ a (fun y hy => right_formed hR hy) _ (hD.le S6.le) (hA.le S6.le)) ?_
 rintro _ w8 ⟨rfl, hl10⟩
 have S9 := S6.step hl10
 refine l_a rfl ?_
 refine l_nil ?_
 refine r_seq ?_
 refine r_region ?_
 refine l_m rfl ?_
 refine l_x rfl (x_neq rfl rfl) ?_
 refine l_nil ?_
 refine r_ifd rfl (fun hc21 => ?_) (fun hc21 => ?_)
 ·skip
  refine r_seq ?_
  refine r_region ?_
  refine l_m rfl ?_
  refine l_a rfl ?_
  refine l_a rfl ?_
  refine l_nil ?_
  refine r_ret (rs := [.tmp 4, .tmp 5]) [_, _] Tryz.func42 rfl ⟨rfl, rfl, trivial⟩ ?_
  exact ⟨_, [], _, rfl, by rw [app_no h0 hc21], by rw [app_no h0 hc21]; rfl, Own.nopack (Own.nilvec (S9.take 0))⟩
 have hf0 := Decidable.not_not.1 hc21
 refine r_skip ?_
 refine r_seq ?_
 refine r_drawE 4 nob Tryz.mixed (by kernel_rfl) ?_
 intro w11 hl12
 have S13 := S9.step hl12
 refine e_exact 0 _ (by kernel_rfl) rfl rfl (by kernel_rfl) rfl (ex_x rfl (fun w1 h1 => x_mv rfl)) ?_
 refine e_next [1, 2] (by kernel_rfl) (by kernel_rfl) ⟨⟨_, _, rfl, rfl, ?_⟩, ⟨_, _, rfl, rfl, ?_⟩, trivial⟩
 ·skip
  refine s_callf [] [] [_] rfl rfl Tryz.call103 rfl ((c_CloneDeed _ _ (by have := right_len hR; rw [dl_len] at this; omega) _ (hD.rd.le S13.le)).mono ?_)
  rintro v2414 w14 ⟨hN2414, hl2414⟩
  have S15 := S13.add hl2414 hN2414
  refine ⟨.of_le hl2414, ?_⟩
  refine e_next [2] (by kernel_rfl) (by kernel_rfl) ⟨⟨_, _, rfl, rfl, ?_⟩, trivial⟩
  refine s_x rfl (x_load rfl (ld_blks (S15.blk 0 rfl) Tryz.isAgg26 Tryz.sizeOf26 rfl rfl)) ?_
  refine ⟨Keep.refl _ _, ?_⟩
  refine e_next [3] (by kernel_rfl) (by kernel_rfl) ⟨⟨_, _, rfl, rfl, ?_⟩, trivial⟩
  refine s_buildSlice ED [a] S15 rfl Tryz.runUnderlying23 Tryz.sizeOf26 Tryz.zeroValue26 rfl ⟨rfl, rfl, trivial⟩ (by decide) ?_
  intro v19 w16 S17 hl18
  refine ⟨.of_le hl18, ?_⟩
  refine e_done (by kernel_rfl) ?_
  refine l_append ED S17 1 rfl rfl rfl rfl (vec_rd (S17.at 2 rfl)) Tryz.underlying23 info26 rfl rfl rfl (by unfold maxLen; simp; omega) (by show _ * 120 ≤ _; simp; omega) ?_
  intro v23 w20 S21 hk22 hv24
  refine l_call [] [] [_] rfl rfl Tryz.call102 rfl (c_copied (rs ++ [a]) _ (by simp; omega) (lens_of (by rw [dl_snoc]; intro x hx; rcases List.mem_append.1 hx with g | g; exact right_formed hR g; simp at g; subst g; exact (follows_formed hf0).1)) _ (hD.snoc hA S21.le (vec_rd (S21.at 1 rfl)) (by omega))) ?_
  rintro v2825 w25 ⟨rq2825, hq2825, hO2825⟩
  have S26 := S21.join hO2825
  refine l_a rfl ?_
  refine l_a rfl ?_
  refine l_nil ?_
  refine r_ret (rs := [.tmp 4, .tmp 5]) [_, _] Tryz.func42 rfl ⟨rfl, rfl, trivial⟩ ?_
  exact ⟨_, rq2825, _, rfl, by rw [app_ok h0 hf0], by rw [app_ok h0 hf0, hq2825, dl_snoc], S26.pick (L' := [_, _]) [3, 4] (by decide) rfl⟩
 refine s_x rfl (x_load rfl (ld_blks (S13.blk 0 rfl) Tryz.isAgg26 Tryz.sizeOf26 rfl rfl)) ?_
 refine ⟨Keep.refl _ _, ?_⟩
 refine e_next [1, 3] (by kernel_rfl) (by kernel_rfl) ⟨⟨_, _, rfl, rfl, ?_⟩, ⟨_, _, rfl, rfl, ?_⟩, trivial⟩
 ·skip
  refine s_callf [] [] [_] rfl rfl Tryz.call103 rfl ((c_CloneDeed _ _ (by have := right_len hR; rw [dl_len] at this; omega) _ (hD.rd.le S13.le)).mono ?_)
  rintro v2427 w27 ⟨hN2427, hl2427⟩
  have S28 := S13.add hl2427 hN2427
  refine ⟨.of_le hl2427, ?_⟩
  refine e_next [3] (by kernel_rfl) (by kernel_rfl) ⟨⟨_, _, rfl, rfl, ?_⟩, trivial⟩
  refine s_buildSlice ED [a] S28 rfl Tryz.runUnderlying23 Tryz.sizeOf26 Tryz.zeroValue26 rfl ⟨rfl, rfl, trivial⟩ (by decide) ?_
  intro v32 w29 S30 hl31
  refine ⟨.of_le hl31, ?_⟩
  refine e_done (by kernel_rfl) ?_
  refine l_append ED S30 1 rfl rfl rfl rfl (vec_rd (S30.at 2 rfl)) Tryz.underlying23 info26 rfl rfl rfl (by unfold maxLen; simp; omega) (by show _ * 120 ≤ _; simp; omega) ?_
  intro v36 w33 S34 hk35 hv37
  refine l_call [] [] [_] rfl rfl Tryz.call102 rfl (c_copied (rs ++ [a]) _ (by simp; omega) (lens_of (by rw [dl_snoc]; intro x hx; rcases List.mem_append.1 hx with g | g; exact right_formed hR g; simp at g; subst g; exact (follows_formed hf0).1)) _ (hD.snoc hA S34.le (vec_rd (S34.at 1 rfl)) (by omega))) ?_
  rintro v2838 w38 ⟨rq2838, hq2838, hO2838⟩
  have S39 := S34.join hO2838
  refine l_a rfl ?_
  refine l_a rfl ?_
  refine l_nil ?_
  refine r_ret (rs := [.tmp 4, .tmp 5]) [_, _] Tryz.func42 rfl ⟨rfl, rfl, trivial⟩ ?_
  exact ⟨_, rq2838, _, rfl, by rw [app_ok h0 hf0], by rw [app_ok h0 hf0, hq2838, dl_snoc], S39.pick (L' := [_, _]) [3, 4] (by decide) rfl⟩
 refine s_buildSlice ED [a] S13 rfl Tryz.runUnderlying23 Tryz.sizeOf26 Tryz.zeroValue26 rfl ⟨rfl, rfl, trivial⟩ (by decide) ?_
 intro v43 w40 S41 hl42
 refine ⟨.of_le hl42, ?_⟩
 refine e_next [1] (by kernel_rfl) (by kernel_rfl) ⟨⟨_, _, rfl, rfl, ?_⟩, trivial⟩
 refine s_callf [] [] [_] rfl rfl Tryz.call103 rfl ((c_CloneDeed _ _ (by have := right_len hR; rw [dl_len] at this; omega) _ (hD.rd.le S41.le)).mono ?_)
 rintro v2444 w44 ⟨hN2444, hl2444⟩
 have S45 := S41.add hl2444 hN2444
 refine ⟨.of_le hl2444, ?_⟩
 refine e_done (by kernel_rfl) ?_
 refine l_append ED S45 2 rfl rfl rfl rfl (vec_rd (S45.at 1 rfl)) Tryz.underlying23 info26 rfl rfl rfl (by unfold maxLen; simp; omega) (by show _ * 120 ≤ _; simp; omega) ?_
 intro v49 w46 S47 hk48 hv50
 refine l_call [] [] [_] rfl rfl Tryz.call102 rfl (c_copied (rs ++ [a]) _ (by simp; omega) (lens_of (by rw [dl_snoc]; intro x hx; rcases List.mem_append.1 hx with g | g; exact right_formed hR g; simp at g; subst g; exact (follows_formed hf0).1)) _ (hD.snoc hA S47.le (vec_rd (S47.at 2 rfl)) (by omega))) ?_
 rintro v2851 w51 ⟨rq2851, hq2851, hO2851⟩
 have S52 := S47.join hO2851
 refine l_a rfl ?_
 refine l_a rfl ?_
 refine l_nil ?_
 refine r_ret (rs := [.tmp 4, .tmp 5]) [_, _] Tryz.func42 rfl ⟨rfl, rfl, trivial⟩ ?_
 exact ⟨_, rq2851, _, rfl, by rw [app_ok h0 hf0], by rw [app_ok h0 hf0, hq2851, dl_snoc], S52.pick (L' := [_, _]) [3, 4] (by decide) rfl⟩

end Go.Proofs

namespace Go.Proofs
open Go Go.Vk Go.Vk.Flow

open Go.Vk.Deed
def acInts (a : Acc) : List Int := [a.owner, a.holds, a.pledged, a.out, a.inn]
theorem map_get0 {f : Int → Option Int} {k x : Int} (h : (f k).getD 0 = x) : (f k).elim (.int .i64 0) kInt = .int .i64 x := by
 cases hf : f k <;> rw [hf] at h <;> simp at h <;> simp [h]

theorem c_out (b : Nat) (n : Nm) (s : St) (hs : Int → Option Int) (pf : Int → Option Pl) (sf : Int → Int → Option Int) (o day : Int) (hB : StB s) (w : World) (hR : RollRO TY b n s hs pf sf w) :
  Cl Tryz.prog 160 #[.pointer (some ⟨b, 0, none⟩), .int .i64 o, .int .i64 day] w fun v w' => v = .int .i64 (outS s o day) ∧ Le w w' := by
 have hll := hB.ll
 refine fn_of_run (args := [_, _, _]) 40 Tryz.func160 rfl rfl rfl fun cs => ?_
 have S := Own.start (X := nob) w
 refine r_seq ?_
 refine r_region ?_
 refine l_a rfl ?_
 refine l_nil ?_
 refine r_seq ?_
 refine r_region ?_
 refine l_a rfl ?_
 refine l_nil ?_
 refine r_seq ?_
 refine r_seq ?_
 refine r_region ?_
 refine l_m rfl ?_
 refine l_x rfl (x_nilCheck rfl) ?_
 refine l_x rfl (x_fieldAddr rfl Tryz.runUnderlying96 rfl Tryz.sizeOf92 (by decide)) ?_
 refine l_x rfl (x_load rfl (ld_blk (hR.blk.keep S.le id) Tryz.isAgg92 rfl)) ?_
 refine l_x rfl (x_len (hR.le S.le).lm rfl Tryz.runUnderlying92) ?_
 refine l_m rfl ?_
 refine l_nil ?_
 refine r_block ?_
 refine r_loop (G := Nat) (fun i => s.leases.length - i) (fun i => [(1, .int .i64 o), (2, .int .i64 day), (7, .int .i64 (sumF (fun x : Ls => decide (x.frm = o ∧ x.day ≤ day ∧ day ≤ x.stop)) (·.parts) (s.leases.take i))), (13, n.lv), (14, .int .i64 s.leases.length), (15, .int .i64 i)]) (fun i w' => (i ≤ s.leases.length) ∧ Own nob w w' []) 0 ⟨rfl, rfl, rfl, rfl, rfl, rfl, trivial⟩ ⟨Nat.zero_le _, (S.take 0)⟩ ?_
 rintro i ρ w1 ⟨hi, S1⟩ IH
 have hbd := hB.out (o := o) (day := day) i
 refine r_seq ?_
 refine r_region ?_
 refine l_x rfl (x_lss rfl rfl) ?_
 refine l_nil ?_
 refine r_seq ?_
 refine r_ifd rfl (fun hc16 => ?_) (fun hc16 => ?_)
 ·skip
  obtain ⟨x, hx⟩ : ∃ x, s.leases[i]? = some x := ⟨_, List.getElem?_eq_getElem (by omega)⟩
  have hxb := hB.lp x (List.mem_of_getElem? hx)
  refine r_skip ?_
  refine r_seq ?_
  refine r_block ?_
  refine r_seq ?_
  refine r_region ?_
  refine l_index ELS rfl (hR.le S1.le).lm rfl rfl Tryz.runUnderlying92 Tryz.sizeOf131 (by omega) hx ?_
  intro b1 o2 hat3 row4
  refine l_x rfl (x_load rfl (ld_row Tryz.isAgg131 Tryz.sizeOf131 rfl row4)) ?_
  refine l_alloc S1 rfl Tryz.zeroValue131 rfl ?_
  intro b8 w5 S6 hl7
  refine l_stores S6 0 rfl rfl rfl rfl (ELS.one _) Tryz.sizeOf131 (by first | exact Nat.le_refl _ | simp) (splice_all rfl) ?_
  intro w9 S10 hk11
  refine l_nil ?_
  refine r_seq ?_
  refine r_region ?_
  refine l_x rfl (x_fieldAddr rfl Tryz.runUnderlying131 rfl Tryz.sizeOf84 (by decide)) ?_
  refine l_x rfl (x_fieldAddr rfl Tryz.runUnderlying84 rfl Tryz.sizeOf3 (by decide)) ?_
  refine l_x rfl (x_load rfl (ld_blk (S10.blk 0 rfl) Tryz.isAgg3 rfl)) ?_
  refine l_m rfl ?_
  refine l_x rfl (x_eql rfl rfl) ?_
  refine l_m rfl ?_
  refine l_splitd (d := 24) rfl (fun hg24 => ?_) (fun hg24 => ?_)
  ·skip
   refine l_m rfl ?_
   refine l_x rfl (x_fieldAddr rfl Tryz.runUnderlying131 rfl Tryz.sizeOf3 (by decide)) ?_
   refine l_x rfl (x_load rfl (ld_blk (S10.blk 0 rfl) Tryz.isAgg3 rfl)) ?_
   refine l_x rfl (x_fieldAddr rfl Tryz.runUnderlying131 rfl Tryz.sizeOf84 (by decide)) ?_
   refine l_x rfl (x_fieldAddr rfl Tryz.runUnderlying84 rfl Tryz.sizeOf3 (by decide)) ?_
   refine l_x rfl (x_load rfl (ld_blk (S10.blk 0 rfl) Tryz.isAgg3 rfl)) ?_
   refine l_call [] [] [_, _, _] rfl rfl Tryz.call120 rfl (c_in _ _ _ _) ?_
   rintro _ w12 ⟨rfl, hl14⟩
   have S13 := S10.step hl14
   refine l_x rfl (x_pick_t rfl rfl) ?_
   refine l_nil ?_
   refine r_if rfl (fun hc32 => ?_) (fun hc32 => ?_)
   ·skip
    refine r_region ?_
    refine l_m rfl ?_
    refine l_x rfl (x_fieldAddr rfl Tryz.runUnderlying131 rfl Tryz.sizeOf84 (by decide)) ?_
    refine l_x rfl (x_fieldAddr rfl Tryz.runUnderlying84 rfl Tryz.sizeOf3 (by decide)) ?_
    refine l_x rfl (x_load rfl (ld_blk (S13.blk 0 rfl) Tryz.isAgg3 rfl)) ?_
    refine l_x rfl (x_add rfl rfl (by omega)) ?_
    refine l_a rfl ?_
    refine l_nil ?_
    refine r_inBlock ?_
    refine r_region ?_
    refine l_x rfl (x_add rfl rfl (by omega)) ?_
    refine l_m rfl ?_
    refine l_nil ?_
    exact IH (i + 1) _ _ (by omega) ⟨rfl, rfl, (congrArg (Value.int .i64) (by rw [sumF_take hx, if_pos (by simp only [decide_eq_true_eq]; first | omega | (simp [rng] at hc32; omega))])), rfl, rfl, rfl, trivial⟩ ⟨by omega, (S13.take 0)⟩
   refine r_skip ?_
   refine r_inBlock ?_
   refine r_region ?_
   refine l_x rfl (x_add rfl rfl (by omega)) ?_
   refine l_m rfl ?_
   refine l_nil ?_
   exact IH (i + 1) _ _ (by omega) ⟨rfl, rfl, (congrArg (Value.int .i64) (by rw [sumF_take hx, if_neg (by simp only [decide_eq_true_eq]; first | omega | (simp [rng] at hc32; omega))]; omega)), rfl, rfl, rfl, trivial⟩ ⟨by omega, (S13.take 0)⟩
  refine l_pass rfl ?_
  refine l_pass rfl ?_
  refine l_pass rfl ?_
  refine l_pass rfl ?_
  refine l_pass rfl ?_
  refine l_pass rfl ?_
  refine l_pass rfl ?_
  refine l_x rfl (x_pick_f rfl rfl) ?_
  refine l_nil ?_
  refine r_false rfl ?_
  refine r_skip ?_
  refine r_inBlock ?_
  refine r_region ?_
  refine l_x rfl (x_add rfl rfl (by omega)) ?_
  refine l_m rfl ?_
  refine l_nil ?_
  exact IH (i + 1) _ _ (by omega) ⟨rfl, rfl, (congrArg (Value.int .i64) (by rw [sumF_take hx, if_neg (by simp only [decide_eq_true_eq]; first | omega | (simp [rng] at hc32; omega))]; omega)), rfl, rfl, rfl, trivial⟩ ⟨by omega, (S10.take 0)⟩
 obtain rfl : i = s.leases.length := by omega
 refine r_exit rfl ?_
 refine r_seq ?_
 refine r_region ?_
 refine l_m rfl ?_
 refine l_a rfl ?_
 refine l_nil ?_
 refine r_ret (rs := [.tmp 6]) [_] Tryz.func160 rfl ⟨rfl, trivial⟩ ?_
 exact ⟨congrArg (Value.int .i64) (by rw [List.take_length]; rfl), S1.le⟩

theorem plV_inj : ∀ a a', plV a = plV a' → a = a' := fun a b h => by
 obtain ⟨a1, a2, a3, a4⟩ := a
 obtain ⟨b1, b2, b3, b4⟩ := b
 simp only [plV, encPl, i64, Value.agg.injEq] at h
 have h' := congrArg Array.toList h
 simp at h'
 simp [h']

theorem c_pledged (b : Nat) (n : Nm) (s : St) (hs : Int → Option Int) (pf : Int → Option Pl) (sf : Int → Int → Option Int) (o : Int) (hB : StB s) (w : World) (hR : RollRO TY b n s hs pf sf w) :
  Cl Tryz.prog 159 #[.pointer (some ⟨b, 0, none⟩), .int .i64 o] w fun v w' => v = .int .i64 (pledged s o) ∧ Le w w' := by
 obtain ⟨es, clock, hm, hM⟩ := hR.pm
 refine fn_of_run (args := [_, _]) 26 Tryz.func159 rfl rfl rfl fun cs => ?_
 have S := Own.start (X := nob) w
 refine r_seq ?_
 refine r_region ?_
 refine l_a rfl ?_
 refine l_nil ?_
 refine r_seq ?_
 refine r_region ?_
 refine l_a rfl ?_
 refine l_nil ?_
 refine r_seq ?_
 refine r_seq ?_
 refine r_region ?_
 refine l_m rfl ?_
 refine l_x rfl (x_nilCheck rfl) ?_
 refine l_x rfl (x_fieldAddr rfl Tryz.runUnderlying96 rfl Tryz.sizeOf93 (by decide)) ?_
 refine l_x rfl (x_load rfl (ld_blk (hR.blk.keep S.le id) Tryz.isAgg93 rfl)) ?_
 refine l_range kInt plV S rfl Tryz.runUnderlying93 rfl (he_le hm S.le) ?_
 intro it4 w1 S2 hl3
 refine l_nil ?_
 refine r_block ?_
 refine r_loop (G := List (Int × Pl)) (fun vis => es.size - vis.length) (fun vis => [(1, .int .i64 o), (5, .int .i64 (sumF (fun x : Pl => decide (x.frm = o)) (·.parts) (vis.map (·.2)))), (12, .pointer (some ⟨it4, 0, none⟩))]) (fun vis w' => (Vis pf vis) ∧ Own nob w w' [itr kInt plV it4 n.p es clock vis]) [] ⟨rfl, rfl, rfl, trivial⟩ ⟨.nil, (S2.take 1)⟩ ?_
 rintro vis ρ w1 ⟨hV, S1⟩ IH
 have hbd := vis_bd (o := o) hB hR.ok.p hV
 refine r_seq ?_
 refine r_region ?_
 refine l_next S1 0 rfl rfl keyI plV_inj hM rfl (he_le hm S1.le) (fun hAll => ?_) (fun c a w5 hfc hnew S6 hk7 => ?_)
 ·skip
  refine l_x rfl (x_extract rfl rfl) ?_
  refine l_nil ?_
  refine r_seq ?_
  refine r_false rfl ?_
  refine r_exit rfl ?_
  refine r_seq ?_
  refine r_region ?_
  refine l_m rfl ?_
  refine l_a rfl ?_
  refine l_nil ?_
  refine r_ret (rs := [.tmp 4]) [_] Tryz.func159 rfl ⟨rfl, trivial⟩ ?_
  exact ⟨congrArg (Value.int .i64) (pledged_of hB hR.ok.p hV hAll), S1.le⟩
 have hlen := itr_len (S6.at 0 rfl)
 rw [List.length_append, List.length_singleton] at hlen
 have hV2 := hV.step hfc hnew
 have hbd2 := vis_bd (o := o) hB hR.ok.p hV2
 have hab := hB.pp a (plOf_mem (by rw [← hR.ok.p]; exact hfc)).1
 refine l_x rfl (x_extract rfl rfl) ?_
 refine l_nil ?_
 refine r_seq ?_
 refine r_true rfl ?_
 refine r_skip ?_
 refine r_block ?_
 refine r_seq ?_
 refine r_region ?_
 refine l_x rfl (x_entry (S6.at 0 rfl) hM (he_le hm S6.le) rfl) ?_
 refine l_x rfl (x_extract rfl rfl) ?_
 refine l_alloc S6 rfl Tryz.zeroValue86 rfl ?_
 intro b11 w8 S9 hl10
 refine l_stores S9 1 rfl rfl rfl rfl (EPL.one _) Tryz.sizeOf86 (by first | exact Nat.le_refl _ | simp) (splice_all rfl) ?_
 intro w12 S13 hk14
 refine l_nil ?_
 refine r_seq ?_
 refine r_region ?_
 refine l_x rfl (x_fieldAddr rfl Tryz.runUnderlying86 rfl Tryz.sizeOf3 (by decide)) ?_
 refine l_x rfl (x_load rfl (ld_blk (S13.blk 1 rfl) Tryz.isAgg3 rfl)) ?_
 refine l_m rfl ?_
 refine l_x rfl (x_eql rfl rfl) ?_
 refine l_nil ?_
 refine r_ifd rfl (fun hc20 => ?_) (fun hc20 => ?_)
 ·skip
  refine r_region ?_
  refine l_m rfl ?_
  refine l_x rfl (x_fieldAddr rfl Tryz.runUnderlying86 rfl Tryz.sizeOf3 (by decide)) ?_
  refine l_x rfl (x_load rfl (ld_blk (S13.blk 1 rfl) Tryz.isAgg3 rfl)) ?_
  refine l_x rfl (x_add rfl rfl (by omega)) ?_
  refine l_a rfl ?_
  refine l_nil ?_
  refine r_inBlock ?_
  exact IH (vis ++ [(c, a)]) _ _ (by rw [List.length_append, List.length_singleton]; omega) ⟨rfl, (congrArg (Value.int .i64) (by rw [List.map_append, List.map_cons, List.map_nil, sumF_snoc, if_pos (by simpa using hc20)])), rfl, trivial⟩ ⟨hV2, (S13.take 1)⟩
 refine r_skip ?_
 refine r_inBlock ?_
 exact IH (vis ++ [(c, a)]) _ _ (by rw [List.length_append, List.length_singleton]; omega) ⟨rfl, (congrArg (Value.int .i64) (by rw [List.map_append, List.map_cons, List.map_nil, sumF_snoc, if_neg (by simpa using hc20)]; omega)), rfl, trivial⟩ ⟨hV2, (S13.take 1)⟩

theorem c_free (b : Nat) (n : Nm) (s : St) (hs : Int → Option Int) (pf : Int → Option Pl) (sf : Int → Int → Option Int) (o day : Int) (hB : StB s) (w : World) (hR : RollRO TY b n s hs pf sf w) :
  Cl Tryz.prog 242 #[.pointer (some ⟨b, 0, none⟩), .int .i64 o, .int .i64 day] w fun v w' => v = .int .i64 (free s o day) ∧ Le w w' := by
 have hb1 := hB.outS (o := o) (day := day)
 have hb2 := hB.pledged (o := o)
 have hb3 := hB.hb o
 refine fn_of_run (args := [_, _, _]) 22 Tryz.func242 rfl rfl rfl fun cs => ?_
 have S := Own.start (X := nob) w
 refine r_seq ?_
 refine r_region ?_
 refine l_a rfl ?_
 refine l_nil ?_
 refine r_seq ?_
 refine r_drawR 16 Tryz.mixed (by kernel_rfl) ?_
 refine w_x rfl (fun w1 h1 => x_mv rfl) ?_
 refine w_x rfl (fun w1 h1 => x_nilCheck rfl) ?_
 refine w_x rfl (fun w1 h1 => x_fieldAddr rfl Tryz.runUnderlying96 rfl Tryz.sizeOf91 (by decide)) ?_
 refine w_x rfl (fun w1 h1 => x_load rfl (ld_blk (hR.blk.keep (S.step h1).le id) Tryz.isAgg91 rfl)) ?_
 refine w_x rfl (fun w1 h1 => x_mv rfl) ?_
 refine w_x rfl (fun w1 h1 => x_lookup (hR.le (S.step h1).le).hm keyI Tryz.runUnderlying91 rfl rfl Tryz.zeroValue3 (map_get0 (hR.ok.h o))) ?_
 refine w_x rfl (fun w1 h1 => x_mv rfl) ?_
 refine w_x rfl (fun w1 h1 => x_mv rfl) ?_
 refine w_x rfl (fun w1 h1 => x_mv rfl) ?_
 refine wd_call [] [] [_, _, _] rfl rfl Tryz.call160 rfl (fun w1 h1 => c_out b n s hs pf sf _ _ hB _ (hR.le (S.step h1).le)) ?_
 refine w_x rfl (fun w1 h1 => x_sub rfl rfl (by omega)) ?_
 refine w_x rfl (fun w1 h1 => x_mv rfl) ?_
 refine w_x rfl (fun w1 h1 => x_mv rfl) ?_
 refine wd_call [] [] [_, _] rfl rfl Tryz.call159 rfl (fun w1 h1 => c_pledged b n s hs pf sf _ hB _ (hR.le (S.step h1).le)) ?_
 refine w_x rfl (fun w1 h1 => x_sub rfl rfl (by omega)) ?_
 refine w_x rfl (fun w1 h1 => x_as rfl) ?_
 refine w_nil ?_
 intro w1 hl2
 have S3 := S.step hl2
 refine l_nil ?_
 refine r_ret (rs := [.tmp 6]) [_] Tryz.func242 rfl ⟨rfl, trivial⟩ ?_
 exact ⟨rfl, S3.le⟩

end Go.Proofs

namespace Go.Proofs
open Go Go.Vk Go.Vk.Flow

open Go.Vk.Deed

set_option maxHeartbeats 2000000 in
theorem c_entered (b : Nat) (n : Nm) (s : St) (hs : Int → Option Int) (pf : Int → Option Pl) (sf : Int → Int → Option Int) (o : Int) (w : World) (hR : RollRO TY b n s hs pf sf w) :
  Cl Tryz.prog 85 #[.pointer (some ⟨b, 0, none⟩), .int .i64 o] w fun v w' => New w w' (vec EI v (idsS s o)) ∧ Le w w' := by
 refine fn_of_run (args := [_, _]) 28 Tryz.func85 rfl rfl rfl fun cs => ?_
 have S := Own.start (X := nob) w
 refine r_seq ?_
 refine r_region ?_
 refine l_a rfl ?_
 refine l_nil ?_
 refine r_seq ?_
 refine r_region ?_
 refine l_a rfl ?_
 have S1 := S.nilvec (E := EI)
 refine l_nil ?_
 refine r_seq ?_
 refine r_seq ?_
 rcases hin : n.inn o with _ | mm
 ·skip
  have hel : ([] : List Int).length ≤ 1000000000 := Nat.zero_le _
  have h0 : ∀ i, sf o i = none := hR.ok.none o hin
  refine r_region ?_
  refine l_m rfl ?_
  refine l_x rfl (x_nilCheck rfl) ?_
  refine l_x rfl (x_fieldAddr rfl Tryz.runUnderlying96 rfl Tryz.sizeOf94 (by decide)) ?_
  refine l_x rfl (x_load rfl (ld_blk (hR.blk.keep S1.le id) Tryz.isAgg94 rfl)) ?_
  refine l_m rfl ?_
  refine l_x rfl (x_lookup (hR.le S1.le).sm keyI Tryz.runUnderlying94 rfl rfl Tryz.zeroValue91 (by rw [hin] <;> rfl)) ?_
  refine l_range0 S1 rfl Tryz.runUnderlying91 rfl ?_
  intro it5 w2 S3 hl4
  refine l_nil ?_
  refine r_block ?_
  refine r_loop0 ?_
  refine r_seq ?_
  refine r_region ?_
  refine l_x rfl (x_next0 rfl (S3.obj 1 rfl)) ?_
  refine l_x rfl (x_extract rfl rfl) ?_
  refine l_nil ?_
  refine r_seq ?_
  refine r_false rfl ?_
  refine r_exit rfl ?_
  refine r_seq ?_
  refine r_region ?_
  refine l_m rfl ?_
  refine l_call [] [] [_, _] rfl rfl Tryz.call110 rfl (c_sortedInt _ _ hel _ (vec_rd (S3.at 0 rfl))) ?_
  rintro v276 w6 ⟨l276, hp276, hs276, hN276, hl276⟩
  have S7 := S3.add hl276 hN276
  refine l_a rfl ?_
  refine l_nil ?_
  refine r_ret (rs := [.tmp 4]) [_] Tryz.func85 rfl ⟨rfl, trivial⟩ ?_
  obtain rfl : l276 = idsS s o := (asc_of hp276 hs276).trans (entered_of (s := s) (o := o) (hR.ok.s o) (hR.ok.ids o) (.nil : Vis (sf o) []) (fun k a h => by rw [h0] at h; cases h))
  exact ⟨S7.new 2 rfl, S7.le⟩
 obtain ⟨es, clock, hm, hM⟩ := hR.em hin
 refine r_region ?_
 refine l_m rfl ?_
 refine l_x rfl (x_nilCheck rfl) ?_
 refine l_x rfl (x_fieldAddr rfl Tryz.runUnderlying96 rfl Tryz.sizeOf94 (by decide)) ?_
 refine l_x rfl (x_load rfl (ld_blk (hR.blk.keep S1.le id) Tryz.isAgg94 rfl)) ?_
 refine l_m rfl ?_
 refine l_x rfl (x_lookup (hR.le S1.le).sm keyI Tryz.runUnderlying94 rfl rfl Tryz.zeroValue91 (by rw [hin] <;> rfl)) ?_
 refine l_range kInt kInt S1 rfl Tryz.runUnderlying91 rfl (he_le hm S1.le) ?_
 intro it11 w8 S9 hl10
 refine l_nil ?_
 refine r_block ?_
 refine r_loop (G := List (Int × Int) × Value) (fun ⟨vis, vo⟩ => es.size - vis.length) (fun ⟨vis, vo⟩ => [(5, vo), (14, .pointer (some ⟨it11, 0, none⟩))]) (fun ⟨vis, vo⟩ w' => (Vis (sf o) vis) ∧ Own nob w w' [itr kInt kInt it11 mm es clock vis, vec EI vo ((vis.filter fun q => decide (0 < q.2)).map (·.1))]) ([], .slice none 0 0) ⟨rfl, rfl, trivial⟩ ⟨.nil, (S9.pick [1, 0] (by decide) rfl)⟩ ?_
 rintro ⟨vis, vo⟩ ρ w1 ⟨hV, S1⟩ IH
 refine r_seq ?_
 refine r_region ?_
 refine l_next S1 0 rfl rfl keyI (fun _ _ h => by cases h; rfl) hM rfl (he_le hm S1.le) (fun hAll => ?_) (fun c a w12 hfc hnew S13 hk14 => ?_)
 ·skip
  have hel : ((vis.filter fun q => decide (0 < q.2)).map (·.1)).length ≤ 1000000000 := by
   have hel := vis_len (hR.ok.ids o) hV
   have hfl := List.length_filter_le (fun q : Int × Int => decide (0 < q.2)) vis
   rw [List.length_map]; omega
  refine l_x rfl (x_extract rfl rfl) ?_
  refine l_nil ?_
  refine r_seq ?_
  refine r_false rfl ?_
  refine r_exit rfl ?_
  refine r_seq ?_
  refine r_region ?_
  refine l_m rfl ?_
  refine l_call [] [] [_, _] rfl rfl Tryz.call110 rfl (c_sortedInt _ _ hel _ (vec_rd (S1.at 1 rfl))) ?_
  rintro v2715 w15 ⟨l2715, hp2715, hs2715, hN2715, hl2715⟩
  have S16 := S1.add hl2715 hN2715
  refine l_a rfl ?_
  refine l_nil ?_
  refine r_ret (rs := [.tmp 4]) [_] Tryz.func85 rfl ⟨rfl, trivial⟩ ?_
  obtain rfl : l2715 = idsS s o := (asc_of hp2715 hs2715).trans (entered_of (s := s) (o := o) (hR.ok.s o) (hR.ok.ids o) hV hAll)
  exact ⟨S16.new 2 rfl, S16.le⟩
 have hlen := itr_len (S13.at 0 rfl)
 rw [List.length_append, List.length_singleton] at hlen
 have hV2 := hV.step hfc hnew
 have hel := vis_len (hR.ok.ids o) hV
 have hfl := List.length_filter_le (fun q : Int × Int => decide (0 < q.2)) vis
 refine l_x rfl (x_extract rfl rfl) ?_
 refine l_nil ?_
 refine r_seq ?_
 refine r_true rfl ?_
 refine r_skip ?_
 refine r_block ?_
 refine r_seq ?_
 refine r_region ?_
 refine l_x rfl (x_entry (S13.at 0 rfl) hM (he_le hm S13.le) rfl) ?_
 refine l_x rfl (x_extract rfl rfl) ?_
 refine l_x rfl (x_extract rfl rfl) ?_
 refine l_a rfl ?_
 refine l_a rfl ?_
 refine l_nil ?_
 refine r_seq ?_
 refine r_region ?_
 refine l_m rfl ?_
 refine l_x rfl (x_gtr rfl rfl) ?_
 refine l_nil ?_
 refine r_ifd rfl (fun hc21 => ?_) (fun hc21 => ?_)
 ·skip
  refine r_region ?_
  refine l_m rfl ?_
  refine l_m rfl ?_
  refine l_buildSlice EI [c] S13 rfl Tryz.runUnderlying24 Tryz.sizeOf3 Tryz.zeroValue3 rfl ⟨rfl, rfl, trivial⟩ (Nat.le_of_ble_eq_true rfl) ?_
  intro v20 w17 S18 hl19
  refine l_append EI S18 1 rfl rfl rfl rfl (vec_rd (S18.at 2 rfl)) Tryz.underlying24 info3 rfl rfl rfl (by unfold maxLen; rw [List.length_map, List.length_singleton]; omega) (by rw [List.length_map, List.length_singleton]; show _ * 8 ≤ _; omega) ?_
  intro v24 w21 S22 hk23 hv25
  refine l_a rfl ?_
  refine l_nil ?_
  refine r_inBlock ?_
  exact IH (vis ++ [(c, a)], v24) _ _ (by dsimp only; rw [List.length_append, List.length_singleton]; omega) ⟨rfl, rfl, trivial⟩ ⟨hV2, (by rw [List.filter_append, List.map_append, List.filter_cons, if_pos (by simpa using hc21)]; exact S22.take 2)⟩
 refine r_skip ?_
 refine r_inBlock ?_
 exact IH (vis ++ [(c, a)], vo) _ _ (by dsimp only; rw [List.length_append, List.length_singleton]; omega) ⟨rfl, rfl, trivial⟩ ⟨hV2, (by rw [List.filter_append, List.map_append, List.filter_cons, if_neg (by simpa using hc21)]; rw [List.filter_nil, List.map_nil, List.append_nil]; exact S13.take 2)⟩

set_option maxHeartbeats 2000000 in
theorem c_account (b : Nat) (n : Nm) (s : St) (hs : Int → Option Int) (pf : Int → Option Pl) (sf : Int → Int → Option Int) (o day : Int) (hB : StB s) (w : World) (hR : RollRO TY b n s hs pf sf w) :
  Cl Tryz.prog 117 #[.pointer (some ⟨b, 0, none⟩), .int .i64 o, .int .i64 day] w fun v w' => v = .agg (encAc (acc s o day)).toArray ∧ Le w w' := by
 have hll := hB.ll
 refine fn_of_run (args := [_, _, _]) 57 Tryz.func117 rfl rfl rfl fun cs => ?_
 have S := Own.start (X := nob) w
 refine r_seq ?_
 refine r_region ?_
 refine l_alloc S rfl Tryz.zeroValue66 rfl ?_
 intro b4 w1 S2 hl3
 refine l_nil ?_
 refine r_seq ?_
 refine r_drawE 16 nob Tryz.mixed (by kernel_rfl) ?_
 intro w5 hl6
 have S7 := S2.step hl6
 refine e_exact 0 _ (by kernel_rfl) rfl rfl (by kernel_rfl) rfl (ex_x rfl (fun w1 h1 => x_mv rfl)) ?_
 refine e_exact 1 _ (by kernel_rfl) rfl rfl (by kernel_rfl) rfl (ex_x rfl (fun w1 h1 => x_mv rfl)) ?_
 refine e_exact 2 _ (by kernel_rfl) rfl rfl (by kernel_rfl) rfl (ex_x rfl (fun w1 h1 => x_nilCheck rfl)) ?_
 refine e_exact 3 _ (by kernel_rfl) rfl rfl (by kernel_rfl) rfl (ex_x rfl (fun w1 h1 => x_fieldAddr rfl Tryz.runUnderlying96 rfl Tryz.sizeOf91 (by decide))) ?_
 refine e_exact 4 _ (by kernel_rfl) rfl rfl (by kernel_rfl) rfl (ex_x rfl (fun w1 h1 => x_load rfl (ld_blk (hR.blk.keep (S7.step h1).le id) Tryz.isAgg91 rfl))) ?_
 refine e_exact 5 _ (by kernel_rfl) rfl rfl (by kernel_rfl) rfl (ex_x rfl (fun w1 h1 => x_mv rfl)) ?_
 refine e_exact 6 _ (by kernel_rfl) rfl rfl (by kernel_rfl) rfl (ex_x rfl (fun w1 h1 => x_lookup (hR.le (S7.step h1).le).hm keyI Tryz.runUnderlying91 rfl rfl Tryz.zeroValue3 (map_get0 (hR.ok.h o)))) ?_
 refine e_exact 7 _ (by kernel_rfl) rfl rfl (by kernel_rfl) rfl (ex_x rfl (fun w1 h1 => x_mv rfl)) ?_
 refine e_exact 8 _ (by kernel_rfl) rfl rfl (by kernel_rfl) rfl (ex_x rfl (fun w1 h1 => x_mv rfl)) ?_
 refine e_exact 10 _ (by kernel_rfl) rfl rfl (by kernel_rfl) rfl (ex_x rfl (fun w1 h1 => x_mv rfl)) ?_
 refine e_exact 11 _ (by kernel_rfl) rfl rfl (by kernel_rfl) rfl (ex_x rfl (fun w1 h1 => x_mv rfl)) ?_
 refine e_exact 12 _ (by kernel_rfl) rfl rfl (by kernel_rfl) rfl (ex_x rfl (fun w1 h1 => x_mv rfl)) ?_
 refine e_next [9, 15] (by kernel_rfl) (by kernel_rfl) ⟨⟨_, _, rfl, rfl, ?_⟩, ⟨_, _, rfl, rfl, ?_⟩, trivial⟩
 ·skip
  refine s_callf [] [] [_, _] rfl rfl Tryz.call159 rfl ((c_pledged b n s hs pf sf _ hB _ (hR.le S7.le)).mono ?_)
  rintro _ w8 ⟨rfl, hl10⟩
  have S9 := S7.step hl10
  refine ⟨.of_le hl10, ?_⟩
  refine e_next [13, 15] (by kernel_rfl) (by kernel_rfl) ⟨⟨_, _, rfl, rfl, ?_⟩, ⟨_, _, rfl, rfl, ?_⟩, trivial⟩
  ·skip
   refine s_callf [] [] [_, _, _] rfl rfl Tryz.call160 rfl ((c_out b n s hs pf sf _ _ hB _ (hR.le S9.le)).mono ?_)
   rintro _ w11 ⟨rfl, hl13⟩
   have S12 := S9.step hl13
   refine ⟨.of_le hl13, ?_⟩
   refine e_exact 14 _ (by kernel_rfl) rfl rfl (by kernel_rfl) rfl (ex_x rfl (fun w1 h1 => x_buildS (out := [_, _, _, _, _]) (ss := [1, 1, 1, 1, 1]) Tryz.zeroValue66 rfl Tryz.runUnderlying66 ⟨Tryz.sizeOf3, Tryz.sizeOf3, Tryz.sizeOf3, Tryz.sizeOf3, Tryz.sizeOf3, trivial⟩ (fill_cons rfl rfl rfl (Nat.le_of_ble_eq_true rfl) (fill_cons rfl rfl rfl (Nat.le_of_ble_eq_true rfl) (fill_cons rfl rfl rfl (Nat.le_of_ble_eq_true rfl) (fill_cons rfl rfl rfl (Nat.le_of_ble_eq_true rfl) fill_nil)))))) ?_
   refine e_next [15] (by kernel_rfl) (by kernel_rfl) ⟨⟨_, _, rfl, rfl, ?_⟩, trivial⟩
   refine s_alloc S12 rfl Tryz.zeroValue66 rfl ?_
   intro b17 w14 S15 hl16
   refine ⟨.of_le hl16, ?_⟩
   refine e_done (by kernel_rfl) ?_
   refine l_stores (vs := [_, _, _, _, _]) S15 1 rfl rfl rfl rfl (ones_cons rfl (ones_cons rfl (ones_cons rfl (ones_cons rfl (ones_cons rfl ones_nil))))) Tryz.sizeOf66 (by first | exact Nat.le_refl _ | simp) (splice_all rfl) ?_
   intro w18 S19 hk20
   refine l_nil ?_
   refine r_seq ?_
   refine r_seq ?_
   refine r_region ?_
   refine l_m rfl ?_
   refine l_x rfl (x_nilCheck rfl) ?_
   refine l_x rfl (x_fieldAddr rfl Tryz.runUnderlying96 rfl Tryz.sizeOf92 (by decide)) ?_
   refine l_x rfl (x_load rfl (ld_blk (hR.blk.keep S19.le id) Tryz.isAgg92 rfl)) ?_
   refine l_x rfl (x_len (hR.le S19.le).lm rfl Tryz.runUnderlying92) ?_
   refine l_m rfl ?_
   refine l_nil ?_
   refine r_block ?_
   refine r_loop (G := Nat) (fun i => s.leases.length - i) (fun i => [(1, .int .i64 o), (2, .int .i64 day), (6, .pointer (some ⟨b4, 0, none⟩)), (7, .pointer (some ⟨b17, 0, none⟩)), (28, n.lv), (29, .int .i64 s.leases.length), (30, .int .i64 i)]) (fun i w' => (i ≤ s.leases.length) ∧ Own nob w w' [blk b4 [i64 0, i64 0, i64 0, i64 0, i64 0] 66, blk b17 [i64 o, i64 (s.holds o), i64 (pledged s o), i64 (outS s o day), i64 (sumF (fun x : Ls => decide (x.to = o ∧ x.day ≤ day ∧ day ≤ x.stop)) (·.parts) (s.leases.take i))] 66]) 0 ⟨rfl, rfl, rfl, rfl, rfl, rfl, rfl, trivial⟩ ⟨Nat.zero_le _, (S19.take 2)⟩ ?_
   rintro i ρ w1 ⟨hi, S1⟩ IH
   have hbd := hB.inn (o := o) (day := day) i
   refine r_seq ?_
   refine r_region ?_
   refine l_x rfl (x_lss rfl rfl) ?_
   refine l_nil ?_
   refine r_seq ?_
   refine r_ifd rfl (fun hc31 => ?_) (fun hc31 => ?_)
   ·skip
    obtain ⟨x, hx⟩ : ∃ x, s.leases[i]? = some x := ⟨_, List.getElem?_eq_getElem (by omega)⟩
    have hxb := hB.lp x (List.mem_of_getElem? hx)
    refine r_skip ?_
    refine r_seq ?_
    refine r_block ?_
    refine r_seq ?_
    refine r_region ?_
    refine l_index ELS rfl (hR.le S1.le).lm rfl rfl Tryz.runUnderlying92 Tryz.sizeOf131 (by omega) hx ?_
    intro b21 o22 hat23 row24
    refine l_x rfl (x_load rfl (ld_row Tryz.isAgg131 Tryz.sizeOf131 rfl row24)) ?_
    refine l_alloc S1 rfl Tryz.zeroValue131 rfl ?_
    intro b28 w25 S26 hl27
    refine l_stores (vs := [_, _, _, _, _, _]) S26 2 rfl rfl rfl rfl (ones_cons rfl (ones_cons rfl (ones_cons rfl (ones_cons rfl (ones_cons rfl (ones_cons rfl ones_nil)))))) Tryz.sizeOf131 (by first | exact Nat.le_refl _ | simp) (splice_all rfl) ?_
    intro w29 S30 hk31
    refine l_nil ?_
    refine r_seq ?_
    refine r_region ?_
    refine l_x rfl (x_fieldAddr rfl Tryz.runUnderlying131 rfl Tryz.sizeOf84 (by decide)) ?_
    refine l_x rfl (x_fieldAddr rfl Tryz.runUnderlying84 rfl Tryz.sizeOf3 (by decide)) ?_
    refine l_x rfl (x_load rfl (ld_blk (S30.blk 2 rfl) Tryz.isAgg3 rfl)) ?_
    refine l_m rfl ?_
    refine l_x rfl (x_eql rfl rfl) ?_
    refine l_m rfl ?_
    refine l_splitd (d := 39) rfl (fun hg39 => ?_) (fun hg39 => ?_)
    ·skip
     refine l_m rfl ?_
     refine l_x rfl (x_fieldAddr rfl Tryz.runUnderlying131 rfl Tryz.sizeOf3 (by decide)) ?_
     refine l_x rfl (x_load rfl (ld_blk (S30.blk 2 rfl) Tryz.isAgg3 rfl)) ?_
     refine l_x rfl (x_fieldAddr rfl Tryz.runUnderlying131 rfl Tryz.sizeOf84 (by decide)) ?_
     refine l_x rfl (x_fieldAddr rfl Tryz.runUnderlying84 rfl Tryz.sizeOf3 (by decide)) ?_
     refine l_x rfl (x_load rfl (ld_blk (S30.blk 2 rfl) Tryz.isAgg3 rfl)) ?_
     refine l_call [] [] [_, _, _] rfl rfl Tryz.call120 rfl (c_in _ _ _ _) ?_
     rintro _ w32 ⟨rfl, hl34⟩
     have S33 := S30.step hl34
     refine l_x rfl (x_pick_t rfl rfl) ?_
     refine l_nil ?_
     refine r_if rfl (fun hc47 => ?_) (fun hc47 => ?_)
     ·skip
      refine r_region ?_
      refine l_x rfl (x_fieldAddr rfl Tryz.runUnderlying66 rfl Tryz.sizeOf3 (by decide)) ?_
      refine l_x rfl (x_load rfl (ld_blk (S33.blk 1 rfl) Tryz.isAgg3 rfl)) ?_
      refine l_x rfl (x_fieldAddr rfl Tryz.runUnderlying131 rfl Tryz.sizeOf84 (by decide)) ?_
      refine l_x rfl (x_fieldAddr rfl Tryz.runUnderlying84 rfl Tryz.sizeOf3 (by decide)) ?_
      refine l_x rfl (x_load rfl (ld_blk (S33.blk 2 rfl) Tryz.isAgg3 rfl)) ?_
      refine l_x rfl (x_add rfl rfl (by omega)) ?_
      refine l_x rfl (x_fieldAddr rfl Tryz.runUnderlying66 rfl Tryz.sizeOf3 (by decide)) ?_
      refine l_storeq (c' := [_, _, _, _, _]) S33 1 rfl rfl rfl rfl rfl Tryz.sizeOf3 (by first | (simp; done) | exact Nat.le_of_ble_eq_true rfl) rfl ?_
      intro w35 S36 hk37
      refine l_nil ?_
      refine r_inBlock ?_
      refine r_region ?_
      refine l_x rfl (x_add rfl rfl (by omega)) ?_
      refine l_m rfl ?_
      refine l_nil ?_
      exact IH (i + 1) _ _ (by omega) ⟨rfl, rfl, rfl, rfl, rfl, rfl, rfl, trivial⟩ ⟨by omega, (by rw [sumF_take hx, if_pos (by simp only [decide_eq_true_eq]; first | omega | (simp [rng] at hc47; omega))]; exact S36.take 2)⟩
     refine r_skip ?_
     refine r_inBlock ?_
     refine r_region ?_
     refine l_x rfl (x_add rfl rfl (by omega)) ?_
     refine l_m rfl ?_
     refine l_nil ?_
     exact IH (i + 1) _ _ (by omega) ⟨rfl, rfl, rfl, rfl, rfl, rfl, rfl, trivial⟩ ⟨by omega, (by rw [sumF_take hx, if_neg (by simp only [decide_eq_true_eq]; first | omega | (simp [rng] at hc47; omega))]; rw [Int.add_zero]; exact S33.take 2)⟩
    refine l_pass rfl ?_
    refine l_pass rfl ?_
    refine l_pass rfl ?_
    refine l_pass rfl ?_
    refine l_pass rfl ?_
    refine l_pass rfl ?_
    refine l_pass rfl ?_
    refine l_x rfl (x_pick_f rfl rfl) ?_
    refine l_nil ?_
    refine r_false rfl ?_
    refine r_skip ?_
    refine r_inBlock ?_
    refine r_region ?_
    refine l_x rfl (x_add rfl rfl (by omega)) ?_
    refine l_m rfl ?_
    refine l_nil ?_
    exact IH (i + 1) _ _ (by omega) ⟨rfl, rfl, rfl, rfl, rfl, rfl, rfl, trivial⟩ ⟨by omega, (by rw [sumF_take hx, if_neg (by simp only [decide_eq_true_eq]; first | omega | (simp [rng] at hc47; omega))]; rw [Int.add_zero]; exact S30.take 2)⟩
   obtain rfl : i = s.leases.length := by omega
   rw [List.take_length] at S1
   refine r_exit rfl ?_
   refine r_seq ?_
   refine r_region ?_
   refine l_x rfl (x_load rfl (ld_blks (S1.blk 1 rfl) Tryz.isAgg66 Tryz.sizeOf66 rfl rfl)) ?_
   refine l_stores (vs := [_, _, _, _, _]) S1 0 rfl rfl rfl rfl (ones_cons rfl (ones_cons rfl (ones_cons rfl (ones_cons rfl (ones_cons rfl ones_nil))))) Tryz.sizeOf66 (by first | exact Nat.le_refl _ | simp) (splice_all rfl) ?_
   intro w38 S39 hk40
   refine l_nil ?_
   refine r_ret (rs := [.cell 6 66]) [_] Tryz.func117 rfl ⟨⟨_, rfl, (ld_blks (S39.blk 0 rfl) Tryz.isAgg66 Tryz.sizeOf66 rfl rfl)⟩, trivial⟩ ?_
   exact ⟨rfl, S39.le⟩
  refine s_alloc S9 rfl Tryz.zeroValue66 rfl ?_
  intro b44 w41 S42 hl43
  refine ⟨.of_le hl43, ?_⟩
  refine e_next [13] (by kernel_rfl) (by kernel_rfl) ⟨⟨_, _, rfl, rfl, ?_⟩, trivial⟩
  refine s_callf [] [] [_, _, _] rfl rfl Tryz.call160 rfl ((c_out b n s hs pf sf _ _ hB _ (hR.le S42.le)).mono ?_)
  rintro _ w45 ⟨rfl, hl47⟩
  have S46 := S42.step hl47
  refine ⟨.of_le hl47, ?_⟩
  refine e_exact 14 _ (by kernel_rfl) rfl rfl (by kernel_rfl) rfl (ex_x rfl (fun w1 h1 => x_buildS (out := [_, _, _, _, _]) (ss := [1, 1, 1, 1, 1]) Tryz.zeroValue66 rfl Tryz.runUnderlying66 ⟨Tryz.sizeOf3, Tryz.sizeOf3, Tryz.sizeOf3, Tryz.sizeOf3, Tryz.sizeOf3, trivial⟩ (fill_cons rfl rfl rfl (Nat.le_of_ble_eq_true rfl) (fill_cons rfl rfl rfl (Nat.le_of_ble_eq_true rfl) (fill_cons rfl rfl rfl (Nat.le_of_ble_eq_true rfl) (fill_cons rfl rfl rfl (Nat.le_of_ble_eq_true rfl) fill_nil)))))) ?_
  refine e_done (by kernel_rfl) ?_
  refine l_stores (vs := [_, _, _, _, _]) S46 1 rfl rfl rfl rfl (ones_cons rfl (ones_cons rfl (ones_cons rfl (ones_cons rfl (ones_cons rfl ones_nil))))) Tryz.sizeOf66 (by first | exact Nat.le_refl _ | simp) (splice_all rfl) ?_
  intro w48 S49 hk50
  refine l_nil ?_
  refine r_seq ?_
  refine r_seq ?_
  refine r_region ?_
  refine l_m rfl ?_
  refine l_x rfl (x_nilCheck rfl) ?_
  refine l_x rfl (x_fieldAddr rfl Tryz.runUnderlying96 rfl Tryz.sizeOf92 (by decide)) ?_
  refine l_x rfl (x_load rfl (ld_blk (hR.blk.keep S49.le id) Tryz.isAgg92 rfl)) ?_
  refine l_x rfl (x_len (hR.le S49.le).lm rfl Tryz.runUnderlying92) ?_
  refine l_m rfl ?_
  refine l_nil ?_
  refine r_block ?_
  refine r_loop (G := Nat) (fun i => s.leases.length - i) (fun i => [(1, .int .i64 o), (2, .int .i64 day), (6, .pointer (some ⟨b4, 0, none⟩)), (7, .pointer (some ⟨b44, 0, none⟩)), (28, n.lv), (29, .int .i64 s.leases.length), (30, .int .i64 i)]) (fun i w' => (i ≤ s.leases.length) ∧ Own nob w w' [blk b4 [i64 0, i64 0, i64 0, i64 0, i64 0] 66, blk b44 [i64 o, i64 (s.holds o), i64 (pledged s o), i64 (outS s o day), i64 (sumF (fun x : Ls => decide (x.to = o ∧ x.day ≤ day ∧ day ≤ x.stop)) (·.parts) (s.leases.take i))] 66]) 0 ⟨rfl, rfl, rfl, rfl, rfl, rfl, rfl, trivial⟩ ⟨Nat.zero_le _, (S49.take 2)⟩ ?_
  rintro i ρ w1 ⟨hi, S1⟩ IH
  have hbd := hB.inn (o := o) (day := day) i
  refine r_seq ?_
  refine r_region ?_
  refine l_x rfl (x_lss rfl rfl) ?_
  refine l_nil ?_
  refine r_seq ?_
  refine r_ifd rfl (fun hc31 => ?_) (fun hc31 => ?_)
  ·skip
   obtain ⟨x, hx⟩ : ∃ x, s.leases[i]? = some x := ⟨_, List.getElem?_eq_getElem (by omega)⟩
   have hxb := hB.lp x (List.mem_of_getElem? hx)
   refine r_skip ?_
   refine r_seq ?_
   refine r_block ?_
   refine r_seq ?_
   refine r_region ?_
   refine l_index ELS rfl (hR.le S1.le).lm rfl rfl Tryz.runUnderlying92 Tryz.sizeOf131 (by omega) hx ?_
   intro b51 o52 hat53 row54
   refine l_x rfl (x_load rfl (ld_row Tryz.isAgg131 Tryz.sizeOf131 rfl row54)) ?_
   refine l_alloc S1 rfl Tryz.zeroValue131 rfl ?_
   intro b58 w55 S56 hl57
   refine l_stores (vs := [_, _, _, _, _, _]) S56 2 rfl rfl rfl rfl (ones_cons rfl (ones_cons rfl (ones_cons rfl (ones_cons rfl (ones_cons rfl (ones_cons rfl ones_nil)))))) Tryz.sizeOf131 (by first | exact Nat.le_refl _ | simp) (splice_all rfl) ?_
   intro w59 S60 hk61
   refine l_nil ?_
   refine r_seq ?_
   refine r_region ?_
   refine l_x rfl (x_fieldAddr rfl Tryz.runUnderlying131 rfl Tryz.sizeOf84 (by decide)) ?_
   refine l_x rfl (x_fieldAddr rfl Tryz.runUnderlying84 rfl Tryz.sizeOf3 (by decide)) ?_
   refine l_x rfl (x_load rfl (ld_blk (S60.blk 2 rfl) Tryz.isAgg3 rfl)) ?_
   refine l_m rfl ?_
   refine l_x rfl (x_eql rfl rfl) ?_
   refine l_m rfl ?_
   refine l_splitd (d := 39) rfl (fun hg39 => ?_) (fun hg39 => ?_)
   ·skip
    refine l_m rfl ?_
    refine l_x rfl (x_fieldAddr rfl Tryz.runUnderlying131 rfl Tryz.sizeOf3 (by decide)) ?_
    refine l_x rfl (x_load rfl (ld_blk (S60.blk 2 rfl) Tryz.isAgg3 rfl)) ?_
    refine l_x rfl (x_fieldAddr rfl Tryz.runUnderlying131 rfl Tryz.sizeOf84 (by decide)) ?_
    refine l_x rfl (x_fieldAddr rfl Tryz.runUnderlying84 rfl Tryz.sizeOf3 (by decide)) ?_
    refine l_x rfl (x_load rfl (ld_blk (S60.blk 2 rfl) Tryz.isAgg3 rfl)) ?_
    refine l_call [] [] [_, _, _] rfl rfl Tryz.call120 rfl (c_in _ _ _ _) ?_
    rintro _ w62 ⟨rfl, hl64⟩
    have S63 := S60.step hl64
    refine l_x rfl (x_pick_t rfl rfl) ?_
    refine l_nil ?_
    refine r_if rfl (fun hc47 => ?_) (fun hc47 => ?_)
    ·skip
     refine r_region ?_
     refine l_x rfl (x_fieldAddr rfl Tryz.runUnderlying66 rfl Tryz.sizeOf3 (by decide)) ?_
     refine l_x rfl (x_load rfl (ld_blk (S63.blk 1 rfl) Tryz.isAgg3 rfl)) ?_
     refine l_x rfl (x_fieldAddr rfl Tryz.runUnderlying131 rfl Tryz.sizeOf84 (by decide)) ?_
     refine l_x rfl (x_fieldAddr rfl Tryz.runUnderlying84 rfl Tryz.sizeOf3 (by decide)) ?_
     refine l_x rfl (x_load rfl (ld_blk (S63.blk 2 rfl) Tryz.isAgg3 rfl)) ?_
     refine l_x rfl (x_add rfl rfl (by omega)) ?_
     refine l_x rfl (x_fieldAddr rfl Tryz.runUnderlying66 rfl Tryz.sizeOf3 (by decide)) ?_
     refine l_storeq (c' := [_, _, _, _, _]) S63 1 rfl rfl rfl rfl rfl Tryz.sizeOf3 (by first | (simp; done) | exact Nat.le_of_ble_eq_true rfl) rfl ?_
     intro w65 S66 hk67
     refine l_nil ?_
     refine r_inBlock ?_
     refine r_region ?_
     refine l_x rfl (x_add rfl rfl (by omega)) ?_
     refine l_m rfl ?_
     refine l_nil ?_
     exact IH (i + 1) _ _ (by omega) ⟨rfl, rfl, rfl, rfl, rfl, rfl, rfl, trivial⟩ ⟨by omega, (by rw [sumF_take hx, if_pos (by simp only [decide_eq_true_eq]; first | omega | (simp [rng] at hc47; omega))]; exact S66.take 2)⟩
    refine r_skip ?_
    refine r_inBlock ?_
    refine r_region ?_
    refine l_x rfl (x_add rfl rfl (by omega)) ?_
    refine l_m rfl ?_
    refine l_nil ?_
    exact IH (i + 1) _ _ (by omega) ⟨rfl, rfl, rfl, rfl, rfl, rfl, rfl, trivial⟩ ⟨by omega, (by rw [sumF_take hx, if_neg (by simp only [decide_eq_true_eq]; first | omega | (simp [rng] at hc47; omega))]; rw [Int.add_zero]; exact S63.take 2)⟩
   refine l_pass rfl ?_
   refine l_pass rfl ?_
   refine l_pass rfl ?_
   refine l_pass rfl ?_
   refine l_pass rfl ?_
   refine l_pass rfl ?_
   refine l_pass rfl ?_
   refine l_x rfl (x_pick_f rfl rfl) ?_
   refine l_nil ?_
   refine r_false rfl ?_
   refine r_skip ?_
   refine r_inBlock ?_
   refine r_region ?_
   refine l_x rfl (x_add rfl rfl (by omega)) ?_
   refine l_m rfl ?_
   refine l_nil ?_
   exact IH (i + 1) _ _ (by omega) ⟨rfl, rfl, rfl, rfl, rfl, rfl, rfl, trivial⟩ ⟨by omega, (by rw [sumF_take hx, if_neg (by simp only [decide_eq_true_eq]; first | omega | (simp [rng] at hc47; omega))]; rw [Int.add_zero]; exact S60.take 2)⟩
  obtain rfl : i = s.leases.length := by omega
  rw [List.take_length] at S1
  refine r_exit rfl ?_
  refine r_seq ?_
  refine r_region ?_
  refine l_x rfl (x_load rfl (ld_blks (S1.blk 1 rfl) Tryz.isAgg66 Tryz.sizeOf66 rfl rfl)) ?_
  refine l_stores (vs := [_, _, _, _, _]) S1 0 rfl rfl rfl rfl (ones_cons rfl (ones_cons rfl (ones_cons rfl (ones_cons rfl (ones_cons rfl ones_nil))))) Tryz.sizeOf66 (by first | exact Nat.le_refl _ | simp) (splice_all rfl) ?_
  intro w68 S69 hk70
  refine l_nil ?_
  refine r_ret (rs := [.cell 6 66]) [_] Tryz.func117 rfl ⟨⟨_, rfl, (ld_blks (S69.blk 0 rfl) Tryz.isAgg66 Tryz.sizeOf66 rfl rfl)⟩, trivial⟩ ?_
  exact ⟨rfl, S69.le⟩
 refine s_alloc S7 rfl Tryz.zeroValue66 rfl ?_
 intro b74 w71 S72 hl73
 refine ⟨.of_le hl73, ?_⟩
 refine e_next [9] (by kernel_rfl) (by kernel_rfl) ⟨⟨_, _, rfl, rfl, ?_⟩, trivial⟩
 refine s_callf [] [] [_, _] rfl rfl Tryz.call159 rfl ((c_pledged b n s hs pf sf _ hB _ (hR.le S72.le)).mono ?_)
 rintro _ w75 ⟨rfl, hl77⟩
 have S76 := S72.step hl77
 refine ⟨.of_le hl77, ?_⟩
 refine e_next [13] (by kernel_rfl) (by kernel_rfl) ⟨⟨_, _, rfl, rfl, ?_⟩, trivial⟩
 refine s_callf [] [] [_, _, _] rfl rfl Tryz.call160 rfl ((c_out b n s hs pf sf _ _ hB _ (hR.le S76.le)).mono ?_)
 rintro _ w78 ⟨rfl, hl80⟩
 have S79 := S76.step hl80
 refine ⟨.of_le hl80, ?_⟩
 refine e_exact 14 _ (by kernel_rfl) rfl rfl (by kernel_rfl) rfl (ex_x rfl (fun w1 h1 => x_buildS (out := [_, _, _, _, _]) (ss := [1, 1, 1, 1, 1]) Tryz.zeroValue66 rfl Tryz.runUnderlying66 ⟨Tryz.sizeOf3, Tryz.sizeOf3, Tryz.sizeOf3, Tryz.sizeOf3, Tryz.sizeOf3, trivial⟩ (fill_cons rfl rfl rfl (Nat.le_of_ble_eq_true rfl) (fill_cons rfl rfl rfl (Nat.le_of_ble_eq_true rfl) (fill_cons rfl rfl rfl (Nat.le_of_ble_eq_true rfl) (fill_cons rfl rfl rfl (Nat.le_of_ble_eq_true rfl) fill_nil)))))) ?_
 refine e_done (by kernel_rfl) ?_
 refine l_stores (vs := [_, _, _, _, _]) S79 1 rfl rfl rfl rfl (ones_cons rfl (ones_cons rfl (ones_cons rfl (ones_cons rfl (ones_cons rfl ones_nil))))) Tryz.sizeOf66 (by first | exact Nat.le_refl _ | simp) (splice_all rfl) ?_
 intro w81 S82 hk83
 refine l_nil ?_
 refine r_seq ?_
 refine r_seq ?_
 refine r_region ?_
 refine l_m rfl ?_
 refine l_x rfl (x_nilCheck rfl) ?_
 refine l_x rfl (x_fieldAddr rfl Tryz.runUnderlying96 rfl Tryz.sizeOf92 (by decide)) ?_
 refine l_x rfl (x_load rfl (ld_blk (hR.blk.keep S82.le id) Tryz.isAgg92 rfl)) ?_
 refine l_x rfl (x_len (hR.le S82.le).lm rfl Tryz.runUnderlying92) ?_
 refine l_m rfl ?_
 refine l_nil ?_
 refine r_block ?_
 refine r_loop (G := Nat) (fun i => s.leases.length - i) (fun i => [(1, .int .i64 o), (2, .int .i64 day), (6, .pointer (some ⟨b4, 0, none⟩)), (7, .pointer (some ⟨b74, 0, none⟩)), (28, n.lv), (29, .int .i64 s.leases.length), (30, .int .i64 i)]) (fun i w' => (i ≤ s.leases.length) ∧ Own nob w w' [blk b4 [i64 0, i64 0, i64 0, i64 0, i64 0] 66, blk b74 [i64 o, i64 (s.holds o), i64 (pledged s o), i64 (outS s o day), i64 (sumF (fun x : Ls => decide (x.to = o ∧ x.day ≤ day ∧ day ≤ x.stop)) (·.parts) (s.leases.take i))] 66]) 0 ⟨rfl, rfl, rfl, rfl, rfl, rfl, rfl, trivial⟩ ⟨Nat.zero_le _, (S82.take 2)⟩ ?_
 rintro i ρ w1 ⟨hi, S1⟩ IH
 have hbd := hB.inn (o := o) (day := day) i
 refine r_seq ?_
 refine r_region ?_
 refine l_x rfl (x_lss rfl rfl) ?_
 refine l_nil ?_
 refine r_seq ?_
 refine r_ifd rfl (fun hc31 => ?_) (fun hc31 => ?_)
 ·skip
  obtain ⟨x, hx⟩ : ∃ x, s.leases[i]? = some x := ⟨_, List.getElem?_eq_getElem (by omega)⟩
  have hxb := hB.lp x (List.mem_of_getElem? hx)
  refine r_skip ?_
  refine r_seq ?_
  refine r_block ?_
  refine r_seq ?_
  refine r_region ?_
  refine l_index ELS rfl (hR.le S1.le).lm rfl rfl Tryz.runUnderlying92 Tryz.sizeOf131 (by omega) hx ?_
  intro b84 o85 hat86 row87
  refine l_x rfl (x_load rfl (ld_row Tryz.isAgg131 Tryz.sizeOf131 rfl row87)) ?_
  refine l_alloc S1 rfl Tryz.zeroValue131 rfl ?_
  intro b91 w88 S89 hl90
  refine l_stores (vs := [_, _, _, _, _, _]) S89 2 rfl rfl rfl rfl (ones_cons rfl (ones_cons rfl (ones_cons rfl (ones_cons rfl (ones_cons rfl (ones_cons rfl ones_nil)))))) Tryz.sizeOf131 (by first | exact Nat.le_refl _ | simp) (splice_all rfl) ?_
  intro w92 S93 hk94
  refine l_nil ?_
  refine r_seq ?_
  refine r_region ?_
  refine l_x rfl (x_fieldAddr rfl Tryz.runUnderlying131 rfl Tryz.sizeOf84 (by decide)) ?_
  refine l_x rfl (x_fieldAddr rfl Tryz.runUnderlying84 rfl Tryz.sizeOf3 (by decide)) ?_
  refine l_x rfl (x_load rfl (ld_blk (S93.blk 2 rfl) Tryz.isAgg3 rfl)) ?_
  refine l_m rfl ?_
  refine l_x rfl (x_eql rfl rfl) ?_
  refine l_m rfl ?_
  refine l_splitd (d := 39) rfl (fun hg39 => ?_) (fun hg39 => ?_)
  ·skip
   refine l_m rfl ?_
   refine l_x rfl (x_fieldAddr rfl Tryz.runUnderlying131 rfl Tryz.sizeOf3 (by decide)) ?_
   refine l_x rfl (x_load rfl (ld_blk (S93.blk 2 rfl) Tryz.isAgg3 rfl)) ?_
   refine l_x rfl (x_fieldAddr rfl Tryz.runUnderlying131 rfl Tryz.sizeOf84 (by decide)) ?_
   refine l_x rfl (x_fieldAddr rfl Tryz.runUnderlying84 rfl Tryz.sizeOf3 (by decide)) ?_
   refine l_x rfl (x_load rfl (ld_blk (S93.blk 2 rfl) Tryz.isAgg3 rfl)) ?_
   refine l_call [] [] [_, _, _] rfl rfl Tryz.call120 rfl (c_in _ _ _ _) ?_
   rintro _ w95 ⟨rfl, hl97⟩
   have S96 := S93.step hl97
   refine l_x rfl (x_pick_t rfl rfl) ?_
   refine l_nil ?_
   refine r_if rfl (fun hc47 => ?_) (fun hc47 => ?_)
   ·skip
    refine r_region ?_
    refine l_x rfl (x_fieldAddr rfl Tryz.runUnderlying66 rfl Tryz.sizeOf3 (by decide)) ?_
    refine l_x rfl (x_load rfl (ld_blk (S96.blk 1 rfl) Tryz.isAgg3 rfl)) ?_
    refine l_x rfl (x_fieldAddr rfl Tryz.runUnderlying131 rfl Tryz.sizeOf84 (by decide)) ?_
    refine l_x rfl (x_fieldAddr rfl Tryz.runUnderlying84 rfl Tryz.sizeOf3 (by decide)) ?_
    refine l_x rfl (x_load rfl (ld_blk (S96.blk 2 rfl) Tryz.isAgg3 rfl)) ?_
    refine l_x rfl (x_add rfl rfl (by omega)) ?_
    refine l_x rfl (x_fieldAddr rfl Tryz.runUnderlying66 rfl Tryz.sizeOf3 (by decide)) ?_
    refine l_storeq (c' := [_, _, _, _, _]) S96 1 rfl rfl rfl rfl rfl Tryz.sizeOf3 (by first | (simp; done) | exact Nat.le_of_ble_eq_true rfl) rfl ?_
    intro w98 S99 hk100
    refine l_nil ?_
    refine r_inBlock ?_
    refine r_region ?_
    refine l_x rfl (x_add rfl rfl (by omega)) ?_
    refine l_m rfl ?_
    refine l_nil ?_
    exact IH (i + 1) _ _ (by omega) ⟨rfl, rfl, rfl, rfl, rfl, rfl, rfl, trivial⟩ ⟨by omega, (by rw [sumF_take hx, if_pos (by simp only [decide_eq_true_eq]; first | omega | (simp [rng] at hc47; omega))]; exact S99.take 2)⟩
   refine r_skip ?_
   refine r_inBlock ?_
   refine r_region ?_
   refine l_x rfl (x_add rfl rfl (by omega)) ?_
   refine l_m rfl ?_
   refine l_nil ?_
   exact IH (i + 1) _ _ (by omega) ⟨rfl, rfl, rfl, rfl, rfl, rfl, rfl, trivial⟩ ⟨by omega, (by rw [sumF_take hx, if_neg (by simp only [decide_eq_true_eq]; first | omega | (simp [rng] at hc47; omega))]; rw [Int.add_zero]; exact S96.take 2)⟩
  refine l_pass rfl ?_
  refine l_pass rfl ?_
  refine l_pass rfl ?_
  refine l_pass rfl ?_
  refine l_pass rfl ?_
  refine l_pass rfl ?_
  refine l_pass rfl ?_
  refine l_x rfl (x_pick_f rfl rfl) ?_
  refine l_nil ?_
  refine r_false rfl ?_
  refine r_skip ?_
  refine r_inBlock ?_
  refine r_region ?_
  refine l_x rfl (x_add rfl rfl (by omega)) ?_
  refine l_m rfl ?_
  refine l_nil ?_
  exact IH (i + 1) _ _ (by omega) ⟨rfl, rfl, rfl, rfl, rfl, rfl, rfl, trivial⟩ ⟨by omega, (by rw [sumF_take hx, if_neg (by simp only [decide_eq_true_eq]; first | omega | (simp [rng] at hc47; omega))]; rw [Int.add_zero]; exact S93.take 2)⟩
 obtain rfl : i = s.leases.length := by omega
 rw [List.take_length] at S1
 refine r_exit rfl ?_
 refine r_seq ?_
 refine r_region ?_
 refine l_x rfl (x_load rfl (ld_blks (S1.blk 1 rfl) Tryz.isAgg66 Tryz.sizeOf66 rfl rfl)) ?_
 refine l_stores (vs := [_, _, _, _, _]) S1 0 rfl rfl rfl rfl (ones_cons rfl (ones_cons rfl (ones_cons rfl (ones_cons rfl (ones_cons rfl ones_nil))))) Tryz.sizeOf66 (by first | exact Nat.le_refl _ | simp) (splice_all rfl) ?_
 intro w101 S102 hk103
 refine l_nil ?_
 refine r_ret (rs := [.cell 6 66]) [_] Tryz.func117 rfl ⟨⟨_, rfl, (ld_blks (S102.blk 0 rfl) Tryz.isAgg66 Tryz.sizeOf66 rfl rfl)⟩, trivial⟩ ?_
 exact ⟨rfl, S102.le⟩

end Go.Proofs

namespace Go.Proofs
open Go Go.Vk Go.Vk.Flow

open Go.Vk.Deed

theorem c_need (ok : Bool) (w : World) :
  Cp Tryz.prog 241 #[.bool ok] w (fun _ w' => ok = true ∧ Le w w') (fun v w' => ok = false ∧ v = .iface 180 (.agg #[]) ∧ Le w w') := by
 refine fn_of_runP (args := [_]) 6 Tryz.func241 rfl rfl rfl fun cs => ?_
 have S := Own.start (X := nob) w
 refine r_seq ?_
 refine r_region ?_
 refine l_m rfl ?_
 refine l_x rfl (x_not rfl) ?_
 refine l_nil ?_
 refine r_if rfl (fun hc3 => ?_) (fun hc3 => ?_)
 ·skip
  refine r_region ?_
  refine l_x rfl (x_buildS (out := []) (ss := []) Tryz.zeroValue180 rfl Tryz.runUnderlying180 trivial fill_nil) ?_
  refine l_x rfl (x_mkiface rfl Tryz.runUnderlying180 rfl) ?_
  refine l_panic rfl rfl (fun k => ?_)
  exact leaveU_panic Tryz.func241 ⟨by simpa using hc3, rfl, S.le⟩
 refine r_skip ?_
 refine p_end (rs := []) [] Tryz.func241 rfl trivial ?_
 exact ⟨by simpa using hc3, S.le⟩

set_option maxHeartbeats 2000000 in
theorem c_add (b : Nat) (n : Nm) (s : St) (o id x : Int) (ho : 1 ≤ o ∧ o ≤ 40) (hi : 1 ≤ id ∧ id ≤ 400) (h1 : -1000000000000 ≤ s.src o id ∧ s.src o id ≤ 1000000000000) (h2 : -1000000000000 ≤ s.holds o ∧ s.holds o ≤ 1000000000000) (h3 : -1000000000000 ≤ x ∧ x ≤ 1000000000000) (w : World) (S0 : Own (rollS TY b n s).fp w w [rollS TY b n s]) :
  Cl Tryz.prog 240 #[.pointer (some ⟨b, 0, none⟩), .int .i64 o, .int .i64 id, .int .i64 x] w fun _ w' => ∃ n', Own (rollS TY b n s).fp w w' [rollS TY b n' (addS s o id x)] := by
 refine fn_of_run (args := [_, _, _, _]) 39 Tryz.func240 rfl rfl rfl fun cs => ?_
 obtain ⟨hs, pf, sf, hok, S⟩ := Own.rollOpen (A := []) S0
 refine r_seq ?_
 refine r_seq ?_
 rcases hin : n.inn o with _ | mm
 ·skip
  refine r_region ?_
  refine l_m rfl ?_
  refine l_x rfl (x_nilCheck rfl) ?_
  refine l_x rfl (x_fieldAddr rfl Tryz.runUnderlying96 rfl Tryz.sizeOf94 (by decide)) ?_
  refine l_x rfl (x_load rfl (ld_blk (S.blk 0 rfl) Tryz.isAgg94 rfl)) ?_
  refine l_m rfl ?_
  refine l_x rfl (x_lookup (S.at 5 rfl) keyI Tryz.runUnderlying94 rfl rfl Tryz.zeroValue91 (by rw [hin] <;> rfl)) ?_
  refine l_x rfl (x_nilmap Tryz.runUnderlying91 rfl rfl rfl) ?_
  refine l_nil ?_
  refine r_true rfl ?_
  refine r_region ?_
  refine l_m rfl ?_
  refine l_x rfl (x_nilCheck rfl) ?_
  refine l_x rfl (x_fieldAddr rfl Tryz.runUnderlying96 rfl Tryz.sizeOf94 (by decide)) ?_
  refine l_x rfl (x_load rfl (ld_blk (S.blk 0 rfl) Tryz.isAgg94 rfl)) ?_
  refine l_m rfl ?_
  refine l_makeMap kInt kInt S rfl ?_
  intro m4 w1 S2 hl3
  refine l_mapUpdate S2 5 rfl rfl keyI Tryz.runUnderlying94 rfl rfl rfl ?_
  intro w5 S6 hk7
  refine l_nil ?_
  refine r_seq ?_
  have hok2 := hok.more (m := m4) hin
  have hin2 : (n.more o m4).inn o = some m4 := by rw [more_inn hin]; simp [mset]
  have Sn := S6.rollNew hok hin
  refine r_region ?_
  refine l_m rfl ?_
  refine l_x rfl (x_nilCheck rfl) ?_
  refine l_x rfl (x_fieldAddr rfl Tryz.runUnderlying96 rfl Tryz.sizeOf94 (by decide)) ?_
  refine l_x rfl (x_load rfl (ld_blk (Sn.blk 0 rfl) Tryz.isAgg94 rfl)) ?_
  refine l_m rfl ?_
  refine l_x rfl (x_lookup (Sn.at 5 rfl) keyI Tryz.runUnderlying94 rfl rfl Tryz.zeroValue91 (show (_ : Value) = .map (some m4) from by rw [hin2] <;> rfl)) ?_
  refine l_m rfl ?_
  refine l_x rfl (x_lookup (inn_ok (Sn.at 6 rfl) hin2) keyI Tryz.runUnderlying91 rfl rfl Tryz.zeroValue3 (map_get0 (hok2.s o id))) ?_
  refine l_m rfl ?_
  refine l_x rfl (x_add rfl rfl (by omega)) ?_
  refine l_innUpd Sn 6 rfl hin2 hok2.nd rfl keyI Tryz.runUnderlying91 rfl rfl rfl ?_
  intro w8 S9
  refine l_nil ?_
  refine r_region ?_
  refine l_m rfl ?_
  refine l_x rfl (x_nilCheck rfl) ?_
  refine l_x rfl (x_fieldAddr rfl Tryz.runUnderlying96 rfl Tryz.sizeOf91 (by decide)) ?_
  refine l_x rfl (x_load rfl (ld_blk (S9.blk 0 rfl) Tryz.isAgg91 rfl)) ?_
  refine l_m rfl ?_
  refine l_x rfl (x_lookup (S9.at 1 rfl) keyI Tryz.runUnderlying91 rfl rfl Tryz.zeroValue3 (map_get0 (hok.h o))) ?_
  refine l_m rfl ?_
  refine l_x rfl (x_add rfl rfl (by omega)) ?_
  refine l_mapUpdate S9 1 rfl rfl keyI Tryz.runUnderlying91 rfl rfl rfl ?_
  intro w10 S11 hk12
  refine l_nil ?_
  refine r_end (rs := []) [] Tryz.func240 rfl trivial ?_
  exact ⟨n.more o m4, Own.rollShut (A := []) (s := addS s o id x) S11 (hok2.add ho hi hin2)⟩
 refine r_region ?_
 refine l_m rfl ?_
 refine l_x rfl (x_nilCheck rfl) ?_
 refine l_x rfl (x_fieldAddr rfl Tryz.runUnderlying96 rfl Tryz.sizeOf94 (by decide)) ?_
 refine l_x rfl (x_load rfl (ld_blk (S.blk 0 rfl) Tryz.isAgg94 rfl)) ?_
 refine l_m rfl ?_
 refine l_x rfl (x_lookup (S.at 5 rfl) keyI Tryz.runUnderlying94 rfl rfl Tryz.zeroValue91 (by rw [hin] <;> rfl)) ?_
 refine l_x rfl (x_nilmap Tryz.runUnderlying91 rfl rfl rfl) ?_
 refine l_nil ?_
 refine r_false rfl ?_
 refine r_skip ?_
 refine r_seq ?_
 refine r_region ?_
 refine l_m rfl ?_
 refine l_x rfl (x_nilCheck rfl) ?_
 refine l_x rfl (x_fieldAddr rfl Tryz.runUnderlying96 rfl Tryz.sizeOf94 (by decide)) ?_
 refine l_x rfl (x_load rfl (ld_blk (S.blk 0 rfl) Tryz.isAgg94 rfl)) ?_
 refine l_m rfl ?_
 refine l_x rfl (x_lookup (S.at 5 rfl) keyI Tryz.runUnderlying94 rfl rfl Tryz.zeroValue91 (show (_ : Value) = .map (some mm) from by rw [hin] <;> rfl)) ?_
 refine l_m rfl ?_
 refine l_x rfl (x_lookup (inn_ok (S.at 6 rfl) hin) keyI Tryz.runUnderlying91 rfl rfl Tryz.zeroValue3 (map_get0 (hok.s o id))) ?_
 refine l_m rfl ?_
 refine l_x rfl (x_add rfl rfl (by omega)) ?_
 refine l_innUpd S 6 rfl hin hok.nd rfl keyI Tryz.runUnderlying91 rfl rfl rfl ?_
 intro w13 S14
 refine l_nil ?_
 refine r_region ?_
 refine l_m rfl ?_
 refine l_x rfl (x_nilCheck rfl) ?_
 refine l_x rfl (x_fieldAddr rfl Tryz.runUnderlying96 rfl Tryz.sizeOf91 (by decide)) ?_
 refine l_x rfl (x_load rfl (ld_blk (S14.blk 0 rfl) Tryz.isAgg91 rfl)) ?_
 refine l_m rfl ?_
 refine l_x rfl (x_lookup (S14.at 1 rfl) keyI Tryz.runUnderlying91 rfl rfl Tryz.zeroValue3 (map_get0 (hok.h o))) ?_
 refine l_m rfl ?_
 refine l_x rfl (x_add rfl rfl (by omega)) ?_
 refine l_mapUpdate S14 1 rfl rfl keyI Tryz.runUnderlying91 rfl rfl rfl ?_
 intro w15 S16 hk17
 refine l_nil ?_
 refine r_end (rs := []) [] Tryz.func240 rfl trivial ?_
 exact ⟨n, Own.rollShut (A := []) (s := addS s o id x) S16 (hok.add ho hi hin)⟩

theorem drop_get {α : Type} {l : List α} {i : Nat} {a : α} (h : l[i]? = some a) : l.drop i = a :: l.drop (i + 1) := by
 obtain ⟨hi, rfl⟩ := List.getElem?_eq_some_iff.1 h
 exact List.drop_eq_getElem_cons hi

set_option maxHeartbeats 2000000 in
theorem c_move (b : Nat) (n : Nm) (s : St) (a c k : Int) (ha : 1 ≤ a ∧ a ≤ 40) (hc : 1 ≤ c ∧ c ≤ 40) (hB : StB s) (hk : 0 ≤ k ∧ k ≤ 2000000000) (w : World) (S0 : Own (rollS TY b n s).fp w w [rollS TY b n s]) :
  Cl Tryz.prog 243 #[.pointer (some ⟨b, 0, none⟩), .int .i64 a, .int .i64 c, .int .i64 k] w fun _ w' => ∃ n', Own (rollS TY b n s).fp w w' [rollS TY b n' (moveS s a c k)] := by
 have hil := idsS_len s a
 obtain ⟨hs, pf, sf, hR0⟩ := RollRO.of (S0.ro 0 rfl)
 refine fn_of_run (args := [_, _, _, _]) 44 Tryz.func243 rfl rfl rfl fun cs => ?_
 have S := S0
 refine r_seq ?_
 refine r_region ?_
 refine l_m rfl ?_
 refine l_m rfl ?_
 refine l_call [] [] [_, _] rfl rfl Tryz.call85 rfl (c_entered b n s hs pf sf _ _ hR0) ?_
 rintro v131 w1 ⟨hN131, hl131⟩
 have S2 := S.add hl131 hN131
 refine l_x rfl (x_len (vec_rd (S2.at 1 rfl)) rfl Tryz.runUnderlying24) ?_
 refine l_m rfl ?_
 refine l_nil ?_
 refine r_block ?_
 refine r_loop (G := Nat × Nm × St × Int) (fun ⟨i, n1, s1, k1⟩ => (idsS s a).length - i) (fun ⟨i, n1, s1, k1⟩ => [(0, .pointer (some ⟨b, 0, none⟩)), (1, .int .i64 a), (2, .int .i64 c), (3, .int .i64 k1), (13, v131), (14, .int .i64 (idsS s a).length), (15, .int .i64 i)]) (fun ⟨i, n1, s1, k1⟩ w' => (i ≤ (idsS s a).length) ∧ (MvI s s1 a c ((idsS s a).drop i) k k1) ∧ Own (rollS TY b n s).fp w w' [rollS TY b n1 s1, vec EI v131 (idsS s a)]) (0, n, s, k) ⟨rfl, rfl, rfl, rfl, rfl, rfl, rfl, trivial⟩ ⟨Nat.zero_le _, by rw [List.drop_zero]; exact .start hk.1, (S2.take 2)⟩ ?_
 rintro ⟨i, n1, s1, k1⟩ ρ w1 ⟨hi, hI, S1⟩ IH
 refine r_seq ?_
 refine r_region ?_
 refine l_x rfl (x_lss rfl rfl) ?_
 refine l_nil ?_
 refine r_seq ?_
 refine r_ifd rfl (fun hc16 => ?_) (fun hc16 => ?_)
 ·skip
  obtain ⟨y, hy⟩ : ∃ y, (idsS s a)[i]? = some y := ⟨_, List.getElem?_eq_getElem (by omega)⟩
  have hdr := drop_get hy
  rw [hdr] at hI
  have hy1 := hI.sub y (List.mem_cons_self ..)
  have hkk := hI.k0
  have ham := hI.amount hB
  have hI2 := hI.step hB
  obtain ⟨hs1, pf1, sf1, hR⟩ := RollRO.of (S1.ro 0 rfl)
  refine r_skip ?_
  refine r_seq ?_
  refine r_block ?_
  refine r_seq ?_
  refine r_region ?_
  refine l_index EI rfl (vec_rd (S1.at 1 rfl)) rfl rfl Tryz.runUnderlying24 Tryz.sizeOf3 (by omega) hy ?_
  intro b3 o4 hat5 row6
  refine l_x rfl (x_load rfl (ld_cell Tryz.isAgg3 (row6 0 _ rfl))) ?_
  refine l_a rfl ?_
  refine l_nil ?_
  refine r_seq ?_
  refine r_region ?_
  refine l_m rfl ?_
  refine l_m rfl ?_
  refine l_x rfl (x_nilCheck rfl) ?_
  refine l_x rfl (x_fieldAddr rfl Tryz.runUnderlying96 rfl Tryz.sizeOf94 (by decide)) ?_
  refine l_x rfl (x_load rfl (ld_blk hR.blk Tryz.isAgg94 rfl)) ?_
  refine l_m rfl ?_
  refine l_x rfl (x_lookup hR.sm keyI Tryz.runUnderlying94 rfl rfl Tryz.zeroValue91 (show (_ : Value) = (Nm.inn n1 a).elim (.map none) mV from rfl)) ?_
  refine l_m rfl ?_
  refine l_x rfl (x_inn hR keyI Tryz.runUnderlying91 Tryz.zeroValue3 (o := a) rfl rfl) ?_
  refine l_x rfl (x_min rfl rfl) ?_
  refine l_a rfl ?_
  refine l_nil ?_
  refine r_seq ?_
  refine r_region ?_
  refine l_m rfl ?_
  refine l_m rfl ?_
  refine l_m rfl ?_
  refine l_m rfl ?_
  refine l_x rfl (x_neg rfl (by omega)) ?_
  refine l_call [] [] [_, _, _, _] rfl rfl Tryz.call240 rfl (c_add b n1 s1 a y (-min k1 (s1.src a y)) ha hy1 (by have := hI.src a y; have := hB.sb a y; omega) (by have := hI.holds a; have := hB.hb a; omega) (by omega) _ (S1.lend 0 rfl)) ?_
  rintro _ w7 ⟨nn9, hb10⟩
  have S8 := S1.back 0 rfl hb10
  refine l_nil ?_
  refine r_seq ?_
  refine r_region ?_
  refine l_m rfl ?_
  refine l_m rfl ?_
  refine l_m rfl ?_
  refine l_m rfl ?_
  refine l_call [] [] [_, _, _, _] rfl rfl Tryz.call240 rfl (c_add b nn9 (addS s1 a y (-min k1 (s1.src a y))) c y (min k1 (s1.src a y)) hc hy1 (by have := hI.src c y; have := hB.sb c y; rw [addS_src]; split <;> omega) (by have := hI.holds c; have := hB.hb c; rw [addS_holds]; split <;> omega) (by omega) _ (S8.lend 0 rfl)) ?_
  rintro _ w11 ⟨nn13, hb14⟩
  have S12 := S8.back 0 rfl hb14
  refine l_nil ?_
  refine r_region ?_
  refine l_m rfl ?_
  refine l_m rfl ?_
  refine l_x rfl (x_sub rfl rfl (by omega)) ?_
  refine l_a rfl ?_
  refine l_nil ?_
  refine r_inBlock ?_
  refine r_region ?_
  refine l_x rfl (x_add rfl rfl (by omega)) ?_
  refine l_m rfl ?_
  refine l_nil ?_
  exact IH (i + 1, nn13, addS (addS s1 a y (-min k1 (s1.src a y))) c y (min k1 (s1.src a y)), k1 - min k1 (s1.src a y)) _ _ (by dsimp only; omega) ⟨rfl, rfl, rfl, rfl, rfl, rfl, rfl, trivial⟩ ⟨by omega, hI2, (S12.take 2)⟩
 obtain rfl : i = (idsS s a).length := by omega
 rw [List.drop_length] at hI
 have hdn := hI.done
 refine r_exit rfl ?_
 refine r_end (rs := []) [] Tryz.func243 rfl trivial ?_
 exact ⟨n1, by rw [← hdn]; exact S1.take 1⟩

end Go.Proofs

namespace Go.Proofs
open Go Go.Vk Go.Vk.Flow

open Go.Vk.Deed
theorem c_freeS (b : Nat) (n : Nm) (s : St) (o day : Int) (hB : StB s) (w : World) (h : RO (rollS TY b n s) w) : Cl Tryz.prog 242 #[.pointer (some ⟨b, 0, none⟩), .int .i64 o, .int .i64 day] w fun v w' => v = .int .i64 (free s o day) ∧ Le w w' :=
 let ⟨hs, pf, sf, hR⟩ := RollRO.of h
 c_free b n s hs pf sf o day hB w hR

set_option maxHeartbeats 2000000 in
theorem c_enter (b : Nat) (n : Nm) (s : St) (a : Rw) (hf : formed a.1 = true) (hB : StB s) (hk : a.1.kind = 1)  (w : World) (S0 : Own (rollS TY b n s).fp w w [rollS TY b n s]) :
  Cl Tryz.prog 213 #[.pointer (some ⟨b, 0, none⟩), .agg (encD a).toArray] w fun _ w' => ∃ n' s', do1 s a.1 = some s' ∧ Own (rollS TY b n s).fp w w' [rollS TY b n' s'] := by
 have hq := formed_ent hf hk
 have hi := formed_id hf
 have hb1 := hB.sb a.1.to a.1.id
 have hb2 := hB.hb a.1.to
 refine fn_of_run (args := [_, _]) 12 Tryz.func213 rfl rfl rfl fun cs => ?_
 have S := S0
 refine r_seq ?_
 refine r_region ?_
 refine l_box S rfl rfl ?_
 intro b4 w1 S2 hl3
 refine l_nil ?_
 refine r_region ?_
 refine l_m rfl ?_
 refine l_x rfl (x_fieldAddr rfl Tryz.runUnderlying26 rfl Tryz.sizeOf3 (by decide)) ?_
 refine l_x rfl (x_load rfl (ld_blk (S2.blk 1 rfl) Tryz.isAgg3 rfl)) ?_
 refine l_x rfl (x_fieldAddr rfl Tryz.runUnderlying26 rfl Tryz.sizeOf3 (by decide)) ?_
 refine l_x rfl (x_load rfl (ld_blk (S2.blk 1 rfl) Tryz.isAgg3 rfl)) ?_
 refine l_x rfl (x_fieldAddr rfl Tryz.runUnderlying26 rfl Tryz.sizeOf3 (by decide)) ?_
 refine l_x rfl (x_load rfl (ld_blk (S2.blk 1 rfl) Tryz.isAgg3 rfl)) ?_
 refine l_call [] [] [_, _, _, _] rfl rfl Tryz.call240 rfl (c_add b n s a.1.to a.1.id a.1.parts hq.1 hi.1 (by omega) (by omega) (by omega) _ (S2.lend 0 rfl)) ?_
 rintro _ w5 ⟨nn7, hb8⟩
 have S6 := S2.back 0 rfl hb8
 refine l_nil ?_
 refine r_end (rs := []) [] Tryz.func213 rfl trivial ?_
 exact ⟨nn7, _, do_enter hk, S6.take 1⟩

set_option maxHeartbeats 2000000 in
theorem c_grant (b : Nat) (n : Nm) (s : St) (a : Rw) (hf : formed a.1 = true) (hB : StB s) (hk : a.1.kind = 2)  (w : World) (S0 : Own (rollS TY b n s).fp w w [rollS TY b n s]) :
  Cp Tryz.prog 214 #[.pointer (some ⟨b, 0, none⟩), .agg (encD a).toArray] w (fun _ w' => ∃ n' s', do1 s a.1 = some s' ∧ Own (rollS TY b n s).fp w w' [rollS TY b n' s']) (fun v w' => v = .iface 180 (.agg #[]) ∧ do1 s a.1 = none ∧ ∃ n', Own (rollS TY b n s).fp w w' [rollS TY b n' s]) := by
 have hq := formed_two hf (by omega)
 refine fn_of_runP (args := [_, _]) 22 Tryz.func214 rfl rfl rfl fun cs => ?_
 have S := S0
 refine r_seq ?_
 refine r_region ?_
 refine l_box S rfl rfl ?_
 intro b4 w1 S2 hl3
 refine l_nil ?_
 refine r_seq ?_
 refine r_drawR 9 Tryz.mixed (by kernel_rfl) ?_
 refine w_x rfl (fun w1 h1 => x_mv rfl) ?_
 refine w_x rfl (fun w1 h1 => x_fieldAddr rfl Tryz.runUnderlying26 rfl Tryz.sizeOf3 (by decide)) ?_
 refine w_x rfl (fun w1 h1 => x_load rfl (ld_blk ((S2.step h1).blk 1 rfl) Tryz.isAgg3 rfl)) ?_
 refine w_x rfl (fun w1 h1 => x_fieldAddr rfl Tryz.runUnderlying26 rfl Tryz.sizeOf3 (by decide)) ?_
 refine w_x rfl (fun w1 h1 => x_load rfl (ld_blk ((S2.step h1).blk 1 rfl) Tryz.isAgg3 rfl)) ?_
 refine wd_call [] [] [_, _, _] rfl rfl Tryz.call242 rfl (fun w1 h1 => c_freeS b n s _ _ hB _ ((S2.step h1).ro 0 rfl)) ?_
 refine w_x rfl (fun w1 h1 => x_fieldAddr rfl Tryz.runUnderlying26 rfl Tryz.sizeOf3 (by decide)) ?_
 refine w_x rfl (fun w1 h1 => x_load rfl (ld_blk ((S2.step h1).blk 1 rfl) Tryz.isAgg3 rfl)) ?_
 refine w_x rfl (fun w1 h1 => x_geq rfl rfl) ?_
 refine w_nil ?_
 intro w5 hl6
 have S7 := S2.step hl6
 refine l_callP [] [] [_] rfl rfl Tryz.call241 rfl (c_need _ _) ?_ ?_
 ·skip
  rintro _ w8 ⟨hok10, hl10⟩
  have S9 := S7.step hl10
  refine l_nil ?_
  refine r_region ?_
  refine l_m rfl ?_
  refine l_x rfl (x_fieldAddr rfl Tryz.runUnderlying26 rfl Tryz.sizeOf3 (by decide)) ?_
  refine l_x rfl (x_load rfl (ld_blk (S9.blk 1 rfl) Tryz.isAgg3 rfl)) ?_
  refine l_x rfl (x_fieldAddr rfl Tryz.runUnderlying26 rfl Tryz.sizeOf3 (by decide)) ?_
  refine l_x rfl (x_load rfl (ld_blk (S9.blk 1 rfl) Tryz.isAgg3 rfl)) ?_
  refine l_x rfl (x_fieldAddr rfl Tryz.runUnderlying26 rfl Tryz.sizeOf3 (by decide)) ?_
  refine l_x rfl (x_load rfl (ld_blk (S9.blk 1 rfl) Tryz.isAgg3 rfl)) ?_
  refine l_call [] [] [_, _, _, _] rfl rfl Tryz.call243 rfl (c_move b n s a.1.frm a.1.to a.1.parts hq.1 hq.2.1 hB (by omega) _ (S9.lend 0 rfl)) ?_
  rintro _ w11 ⟨nn13, hb14⟩
  have S12 := S9.back 0 rfl hb14
  refine l_nil ?_
  refine p_end (rs := []) [] Tryz.func214 rfl trivial ?_
  exact ⟨nn13, _, do_grant hk (of_decide_eq_true hok10), S12.take 1⟩
 rintro _ w15 k ⟨hno17, rfl, hl17⟩
 have S16 := S7.step hl17
 exact leaveU_panic Tryz.func214 ⟨rfl, do_grant0 hk (of_decide_eq_false hno17), n, S16.take 1⟩

set_option maxHeartbeats 2000000 in
theorem c_lease (b : Nat) (n : Nm) (s : St) (a : Rw) (hf : formed a.1 = true) (hB : StB s) (hk : a.1.kind = 4)  (w : World) (S0 : Own (rollS TY b n s).fp w w [rollS TY b n s]) :
  Cp Tryz.prog 216 #[.pointer (some ⟨b, 0, none⟩), .agg (encD a).toArray] w (fun _ w' => ∃ n' s', do1 s a.1 = some s' ∧ Own (rollS TY b n s).fp w w' [rollS TY b n' s']) (fun v w' => v = .iface 180 (.agg #[]) ∧ do1 s a.1 = none ∧ ∃ n', Own (rollS TY b n s).fp w w' [rollS TY b n' s]) := by
 have hq := formed_two hf (by omega)
 have hll := hB.ll
 refine fn_of_runP (args := [_, _]) 37 Tryz.func216 rfl rfl rfl fun cs => ?_
 have S := S0
 refine r_seq ?_
 refine r_region ?_
 refine l_box S rfl rfl ?_
 intro b4 w1 S2 hl3
 refine l_nil ?_
 refine r_seq ?_
 refine r_drawR 9 Tryz.mixed (by kernel_rfl) ?_
 refine w_x rfl (fun w1 h1 => x_mv rfl) ?_
 refine w_x rfl (fun w1 h1 => x_fieldAddr rfl Tryz.runUnderlying26 rfl Tryz.sizeOf3 (by decide)) ?_
 refine w_x rfl (fun w1 h1 => x_load rfl (ld_blk ((S2.step h1).blk 1 rfl) Tryz.isAgg3 rfl)) ?_
 refine w_x rfl (fun w1 h1 => x_fieldAddr rfl Tryz.runUnderlying26 rfl Tryz.sizeOf3 (by decide)) ?_
 refine w_x rfl (fun w1 h1 => x_load rfl (ld_blk ((S2.step h1).blk 1 rfl) Tryz.isAgg3 rfl)) ?_
 refine wd_call [] [] [_, _, _] rfl rfl Tryz.call242 rfl (fun w1 h1 => c_freeS b n s _ _ hB _ ((S2.step h1).ro 0 rfl)) ?_
 refine w_x rfl (fun w1 h1 => x_fieldAddr rfl Tryz.runUnderlying26 rfl Tryz.sizeOf3 (by decide)) ?_
 refine w_x rfl (fun w1 h1 => x_load rfl (ld_blk ((S2.step h1).blk 1 rfl) Tryz.isAgg3 rfl)) ?_
 refine w_x rfl (fun w1 h1 => x_geq rfl rfl) ?_
 refine w_nil ?_
 intro w5 hl6
 have S7 := S2.step hl6
 refine l_callP [] [] [_] rfl rfl Tryz.call241 rfl (c_need _ _) ?_ ?_
 ·skip
  rintro _ w8 ⟨hok10, hl10⟩
  have S9 := S7.step hl10
  refine l_nil ?_
  obtain ⟨hs, pf, sf, hok, So⟩ := Own.rollOpen (A := [_]) ((S9).pick (L' := [_, _]) [1, 0] (by decide) rfl)
  refine r_drawE 21 (Rsc.fp (vec ELS n.lv s.leases)) Tryz.mixed (by kernel_rfl) ?_
  intro w11 hl12
  have S13 := So.step hl12
  refine e_exact 0 _ (by kernel_rfl) rfl rfl (by kernel_rfl) rfl (ex_x rfl (fun w1 h1 => x_mv rfl)) ?_
  refine e_exact 1 _ (by kernel_rfl) rfl rfl (by kernel_rfl) rfl (ex_x rfl (fun w1 h1 => x_mv rfl)) ?_
  refine e_exact 2 _ (by kernel_rfl) rfl rfl (by kernel_rfl) rfl (ex_x rfl (fun w1 h1 => x_nilCheck rfl)) ?_
  refine e_exact 3 _ (by kernel_rfl) rfl rfl (by kernel_rfl) rfl (ex_x rfl (fun w1 h1 => x_fieldAddr rfl Tryz.runUnderlying96 rfl Tryz.sizeOf92 (by decide))) ?_
  refine e_exact 4 _ (by kernel_rfl) rfl rfl (by kernel_rfl) rfl (ex_x rfl (fun w1 h1 => x_load rfl (ld_blk ((S13.under 3 rfl h1).blk 1 rfl) Tryz.isAgg92 rfl))) ?_
  refine e_exact 5 _ (by kernel_rfl) rfl rfl (by kernel_rfl) rfl (ex_x rfl (fun w1 h1 => x_fieldAddr rfl Tryz.runUnderlying26 rfl Tryz.sizeOf3 (by decide))) ?_
  refine e_exact 6 _ (by kernel_rfl) rfl rfl (by kernel_rfl) rfl (ex_x rfl (fun w1 h1 => x_load rfl (ld_blk ((S13.under 3 rfl h1).blk 0 rfl) Tryz.isAgg3 rfl))) ?_
  refine e_exact 7 _ (by kernel_rfl) rfl rfl (by kernel_rfl) rfl (ex_x rfl (fun w1 h1 => x_fieldAddr rfl Tryz.runUnderlying26 rfl Tryz.sizeOf3 (by decide))) ?_
  refine e_exact 8 _ (by kernel_rfl) rfl rfl (by kernel_rfl) rfl (ex_x rfl (fun w1 h1 => x_load rfl (ld_blk ((S13.under 3 rfl h1).blk 0 rfl) Tryz.isAgg3 rfl))) ?_
  refine e_exact 9 _ (by kernel_rfl) rfl rfl (by kernel_rfl) rfl (ex_x rfl (fun w1 h1 => x_fieldAddr rfl Tryz.runUnderlying26 rfl Tryz.sizeOf3 (by decide))) ?_
  refine e_exact 10 _ (by kernel_rfl) rfl rfl (by kernel_rfl) rfl (ex_x rfl (fun w1 h1 => x_load rfl (ld_blk ((S13.under 3 rfl h1).blk 0 rfl) Tryz.isAgg3 rfl))) ?_
  refine e_exact 11 _ (by kernel_rfl) rfl rfl (by kernel_rfl) rfl (ex_x rfl (fun w1 h1 => x_fieldAddr rfl Tryz.runUnderlying26 rfl Tryz.sizeOf3 (by decide))) ?_
  refine e_exact 12 _ (by kernel_rfl) rfl rfl (by kernel_rfl) rfl (ex_x rfl (fun w1 h1 => x_load rfl (ld_blk ((S13.under 3 rfl h1).blk 0 rfl) Tryz.isAgg3 rfl))) ?_
  refine e_exact 13 _ (by kernel_rfl) rfl rfl (by kernel_rfl) rfl (ex_x rfl (fun w1 h1 => x_fieldAddr rfl Tryz.runUnderlying26 rfl Tryz.sizeOf3 (by decide))) ?_
  refine e_exact 14 _ (by kernel_rfl) rfl rfl (by kernel_rfl) rfl (ex_x rfl (fun w1 h1 => x_load rfl (ld_blk ((S13.under 3 rfl h1).blk 0 rfl) Tryz.isAgg3 rfl))) ?_
  refine e_exact 15 _ (by kernel_rfl) rfl rfl (by kernel_rfl) rfl (ex_x rfl (fun w1 h1 => x_buildS (out := [_, _, _, _, _]) (ss := [1, 1, 1, 1, 1]) Tryz.zeroValue84 rfl Tryz.runUnderlying84 ⟨Tryz.sizeOf3, Tryz.sizeOf3, Tryz.sizeOf3, Tryz.sizeOf3, Tryz.sizeOf3, trivial⟩ (fill_cons rfl rfl rfl (Nat.le_of_ble_eq_true rfl) (fill_cons rfl rfl rfl (Nat.le_of_ble_eq_true rfl) (fill_cons rfl rfl rfl (Nat.le_of_ble_eq_true rfl) (fill_cons rfl rfl rfl (Nat.le_of_ble_eq_true rfl) (fill_cons rfl rfl rfl (Nat.le_of_ble_eq_true rfl) fill_nil))))))) ?_
  refine e_exact 16 _ (by kernel_rfl) rfl rfl (by kernel_rfl) rfl (ex_x rfl (fun w1 h1 => x_fieldAddr rfl Tryz.runUnderlying26 rfl Tryz.sizeOf3 (by decide))) ?_
  refine e_exact 17 _ (by kernel_rfl) rfl rfl (by kernel_rfl) rfl (ex_x rfl (fun w1 h1 => x_load rfl (ld_blk ((S13.under 3 rfl h1).blk 0 rfl) Tryz.isAgg3 rfl))) ?_
  refine e_exact 18 _ (by kernel_rfl) rfl rfl (by kernel_rfl) rfl (ex_x rfl (fun w1 h1 => x_buildS (out := [_, _, _, _, _, _]) (ss := [5, 1]) Tryz.zeroValue131 rfl Tryz.runUnderlying131 ⟨Tryz.sizeOf84, Tryz.sizeOf3, trivial⟩ (fill_cons rfl rfl rfl (Nat.le_of_ble_eq_true rfl) (fill_cons rfl rfl rfl (Nat.le_of_ble_eq_true rfl) fill_nil)))) ?_
  refine e_next [19] (by kernel_rfl) (by kernel_rfl) ⟨⟨_, _, rfl, rfl, ?_⟩, trivial⟩
  refine s_buildSlice ELS [⟨a.1.id, a.1.frm, a.1.to, a.1.parts, a.1.stop, a.1.day⟩] S13 rfl Tryz.runUnderlying92 Tryz.sizeOf131 Tryz.zeroValue131 rfl ⟨rfl, rfl, trivial⟩ (by decide) ?_
  intro v17 w14 S15 hl16
  refine ⟨.of_le hl16, ?_⟩
  refine e_next [20] (by kernel_rfl) (by kernel_rfl) ⟨⟨_, _, rfl, rfl, ?_⟩, trivial⟩
  refine s_append ELS S15 3 rfl rfl rfl rfl (vec_rd (S15.at 8 rfl)) Tryz.underlying92 info131 rfl rfl rfl (by unfold maxLen; simp; omega) (by show _ * 48 ≤ _; simp; omega) ?_
  intro v21 w18 S19 hk20 hv22
  refine ⟨hk20, ?_⟩
  refine e_done (by kernel_rfl) ?_
  refine l_x rfl (x_nilCheck rfl) ?_
  refine l_x rfl (x_fieldAddr rfl Tryz.runUnderlying96 rfl Tryz.sizeOf92 (by decide)) ?_
  refine l_storeq (c' := [_, _, _, _, _]) (v := v21) S19 1 rfl rfl rfl rfl (Rd.one (vec_rd (S19.at 3 rfl))) Tryz.sizeOf92 (by first | (simp; done) | exact Nat.le_of_ble_eq_true rfl) rfl ?_
  intro w23 S24 hk25
  refine l_nil ?_
  refine p_end (rs := []) [] Tryz.func216 rfl trivial ?_
  exact ⟨{ n with lv := v21 }, _, do_lease hk (of_decide_eq_true hok10), Own.rollShut (A := []) (s := leaseS s a.1) (S24.pick (L' := [_, _, _, _, _, _, _]) [1, 2, 3, 4, 5, 6, 7] (by decide) rfl) hok.lease⟩
 rintro _ w26 k ⟨hno28, rfl, hl28⟩
 have S27 := S7.step hl28
 exact leaveU_panic Tryz.func216 ⟨rfl, do_lease0 hk (of_decide_eq_false hno28), n, S27.take 1⟩

set_option maxHeartbeats 2000000 in
theorem c_pledge (b : Nat) (n : Nm) (s : St) (a : Rw) (hf : formed a.1 = true) (hB : StB s) (hk : a.1.kind = 5) (hnew : ∀ p ∈ s.pledges, p.deed ≠ a.1.id) (w : World) (S0 : Own (rollS TY b n s).fp w w [rollS TY b n s]) :
  Cp Tryz.prog 217 #[.pointer (some ⟨b, 0, none⟩), .agg (encD a).toArray] w (fun _ w' => ∃ n' s', do1 s a.1 = some s' ∧ Own (rollS TY b n s).fp w w' [rollS TY b n' s']) (fun v w' => v = .iface 180 (.agg #[]) ∧ do1 s a.1 = none ∧ ∃ n', Own (rollS TY b n s).fp w w' [rollS TY b n' s]) := by
 have hq := formed_two hf (by omega)
 refine fn_of_runP (args := [_, _]) 29 Tryz.func217 rfl rfl rfl fun cs => ?_
 have S := S0
 refine r_seq ?_
 refine r_region ?_
 refine l_box S rfl rfl ?_
 intro b4 w1 S2 hl3
 refine l_nil ?_
 refine r_seq ?_
 refine r_drawR 9 Tryz.mixed (by kernel_rfl) ?_
 refine w_x rfl (fun w1 h1 => x_mv rfl) ?_
 refine w_x rfl (fun w1 h1 => x_fieldAddr rfl Tryz.runUnderlying26 rfl Tryz.sizeOf3 (by decide)) ?_
 refine w_x rfl (fun w1 h1 => x_load rfl (ld_blk ((S2.step h1).blk 1 rfl) Tryz.isAgg3 rfl)) ?_
 refine w_x rfl (fun w1 h1 => x_fieldAddr rfl Tryz.runUnderlying26 rfl Tryz.sizeOf3 (by decide)) ?_
 refine w_x rfl (fun w1 h1 => x_load rfl (ld_blk ((S2.step h1).blk 1 rfl) Tryz.isAgg3 rfl)) ?_
 refine wd_call [] [] [_, _, _] rfl rfl Tryz.call242 rfl (fun w1 h1 => c_freeS b n s _ _ hB _ ((S2.step h1).ro 0 rfl)) ?_
 refine w_x rfl (fun w1 h1 => x_fieldAddr rfl Tryz.runUnderlying26 rfl Tryz.sizeOf3 (by decide)) ?_
 refine w_x rfl (fun w1 h1 => x_load rfl (ld_blk ((S2.step h1).blk 1 rfl) Tryz.isAgg3 rfl)) ?_
 refine w_x rfl (fun w1 h1 => x_geq rfl rfl) ?_
 refine w_nil ?_
 intro w5 hl6
 have S7 := S2.step hl6
 refine l_callP [] [] [_] rfl rfl Tryz.call241 rfl (c_need _ _) ?_ ?_
 ·skip
  rintro _ w8 ⟨hok10, hl10⟩
  have S9 := S7.step hl10
  refine l_nil ?_
  obtain ⟨hs, pf, sf, hok, So⟩ := Own.rollOpen (A := [_]) ((S9).pick (L' := [_, _]) [1, 0] (by decide) rfl)
  refine r_drawR 15 Tryz.mixed (by kernel_rfl) ?_
  refine w_x rfl (fun w1 h1 => x_mv rfl) ?_
  refine w_x rfl (fun w1 h1 => x_nilCheck rfl) ?_
  refine w_x rfl (fun w1 h1 => x_fieldAddr rfl Tryz.runUnderlying96 rfl Tryz.sizeOf93 (by decide)) ?_
  refine w_x rfl (fun w1 h1 => x_load rfl (ld_blk ((So.step h1).blk 1 rfl) Tryz.isAgg93 rfl)) ?_
  refine w_x rfl (fun w1 h1 => x_fieldAddr rfl Tryz.runUnderlying26 rfl Tryz.sizeOf3 (by decide)) ?_
  refine w_x rfl (fun w1 h1 => x_load rfl (ld_blk ((So.step h1).blk 0 rfl) Tryz.isAgg3 rfl)) ?_
  refine w_x rfl (fun w1 h1 => x_fieldAddr rfl Tryz.runUnderlying26 rfl Tryz.sizeOf3 (by decide)) ?_
  refine w_x rfl (fun w1 h1 => x_load rfl (ld_blk ((So.step h1).blk 0 rfl) Tryz.isAgg3 rfl)) ?_
  refine w_x rfl (fun w1 h1 => x_fieldAddr rfl Tryz.runUnderlying26 rfl Tryz.sizeOf3 (by decide)) ?_
  refine w_x rfl (fun w1 h1 => x_load rfl (ld_blk ((So.step h1).blk 0 rfl) Tryz.isAgg3 rfl)) ?_
  refine w_x rfl (fun w1 h1 => x_fieldAddr rfl Tryz.runUnderlying26 rfl Tryz.sizeOf3 (by decide)) ?_
  refine w_x rfl (fun w1 h1 => x_load rfl (ld_blk ((So.step h1).blk 0 rfl) Tryz.isAgg3 rfl)) ?_
  refine w_x rfl (fun w1 h1 => x_fieldAddr rfl Tryz.runUnderlying26 rfl Tryz.sizeOf3 (by decide)) ?_
  refine w_x rfl (fun w1 h1 => x_load rfl (ld_blk ((So.step h1).blk 0 rfl) Tryz.isAgg3 rfl)) ?_
  refine w_x rfl (fun w1 h1 => x_buildS (out := [_, _, _, _]) (ss := [1, 1, 1, 1]) Tryz.zeroValue86 rfl Tryz.runUnderlying86 ⟨Tryz.sizeOf3, Tryz.sizeOf3, Tryz.sizeOf3, Tryz.sizeOf3, trivial⟩ (fill_cons rfl rfl rfl (Nat.le_of_ble_eq_true rfl) (fill_cons rfl rfl rfl (Nat.le_of_ble_eq_true rfl) (fill_cons rfl rfl rfl (Nat.le_of_ble_eq_true rfl) (fill_cons rfl rfl rfl (Nat.le_of_ble_eq_true rfl) fill_nil))))) ?_
  refine w_nil ?_
  intro w11 hl12
  have S13 := So.step hl12
  refine l_mapUpdate (a0 := ⟨a.1.id, a.1.frm, a.1.to, a.1.parts⟩) S13 4 rfl rfl keyI Tryz.runUnderlying93 rfl rfl rfl ?_
  intro w14 S15 hk16
  refine l_nil ?_
  refine p_end (rs := []) [] Tryz.func217 rfl trivial ?_
  exact ⟨n, _, do_pledge hk (of_decide_eq_true hok10), Own.rollShut (A := []) (s := pledgeS s a.1) (S15.pick (L' := [_, _, _, _, _, _, _]) [1, 2, 3, 4, 5, 6, 7] (by decide) rfl) (hok.pledge hnew)⟩
 rintro _ w17 k ⟨hno19, rfl, hl19⟩
 have S18 := S7.step hl19
 exact leaveU_panic Tryz.func217 ⟨rfl, do_pledge0 hk (of_decide_eq_false hno19), n, S18.take 1⟩

set_option maxHeartbeats 2000000 in
theorem c_redeem (b : Nat) (n : Nm) (s : St) (a : Rw) (hf : formed a.1 = true) (hB : StB s) (hk : a.1.kind = 6)  (w : World) (S0 : Own (rollS TY b n s).fp w w [rollS TY b n s]) :
  Cp Tryz.prog 218 #[.pointer (some ⟨b, 0, none⟩), .agg (encD a).toArray] w (fun _ w' => ∃ n' s', do1 s a.1 = some s' ∧ Own (rollS TY b n s).fp w w' [rollS TY b n' s']) (fun v w' => v = .iface 180 (.agg #[]) ∧ do1 s a.1 = none ∧ ∃ n', Own (rollS TY b n s).fp w w' [rollS TY b n' s]) := by
 refine fn_of_runP (args := [_, _]) 24 Tryz.func218 rfl rfl rfl fun cs => ?_
 have S := S0
 refine r_seq ?_
 refine r_region ?_
 refine l_box S rfl rfl ?_
 intro b4 w1 S2 hl3
 refine l_nil ?_
 refine r_seq ?_
 rcases hpl : plOf s a.1.of with _ | p
 ·skip
  refine r_drawE 13 (yng w1) Tryz.mixed (by kernel_rfl) ?_
  intro w5 hl6
  have S7 := S2.step hl6
  have hy8 : Keep (yng w1) w1 w5 := .of_le hl6
  refine e_exact 0 _ (by kernel_rfl) rfl rfl (by kernel_rfl) rfl (ex_x rfl (fun w1 h1 => x_mv rfl)) ?_
  refine e_exact 1 _ (by kernel_rfl) rfl rfl (by kernel_rfl) rfl (ex_x rfl (fun w1 h1 => x_nilCheck rfl)) ?_
  refine e_exact 2 _ (by kernel_rfl) rfl rfl (by kernel_rfl) rfl (ex_x rfl (fun w1 h1 => x_fieldAddr rfl Tryz.runUnderlying96 rfl Tryz.sizeOf93 (by decide))) ?_
  refine e_exact 3 _ (by kernel_rfl) rfl rfl (by kernel_rfl) rfl (ex_x rfl (fun w1 h1 => x_load rfl (ld_blk (roll_blk ((S2.yng (hy8.trans h1)).ro 0 rfl)) Tryz.isAgg93 rfl))) ?_
  refine e_exact 4 _ (by kernel_rfl) rfl rfl (by kernel_rfl) rfl (ex_x rfl (fun w1 h1 => x_fieldAddr rfl Tryz.runUnderlying26 rfl Tryz.sizeOf3 (by decide))) ?_
  refine e_exact 5 _ (by kernel_rfl) rfl rfl (by kernel_rfl) rfl (ex_x rfl (fun w1 h1 => x_load rfl (ld_blk ((S2.yng (hy8.trans h1)).blk 1 rfl) Tryz.isAgg3 rfl))) ?_
  refine e_exact 6 _ (by kernel_rfl) rfl rfl (by kernel_rfl) rfl (ex_x rfl (fun w1 h1 => x_lookup2 (roll_pm ((S2.yng (hy8.trans h1)).ro 0 rfl)) keyI Tryz.runUnderlying93 rfl rfl Tryz.zeroValue86 (show (_ : Value) = .agg (encPl ⟨0, 0, 0, 0⟩).toArray from by rw [hpl] <;> rfl) (show _ = false from by rw [hpl] <;> rfl))) ?_
  refine e_exact 7 _ (by kernel_rfl) rfl rfl (by kernel_rfl) rfl (ex_x rfl (fun w1 h1 => x_mv rfl)) ?_
  refine e_exact 8 _ (by kernel_rfl) rfl rfl (by kernel_rfl) rfl (ex_x rfl (fun w1 h1 => x_extract rfl rfl)) ?_
  refine e_exact 9 _ (by kernel_rfl) rfl rfl (by kernel_rfl) rfl (ex_x rfl (fun w1 h1 => x_extract rfl rfl)) ?_
  refine e_next [10] (by kernel_rfl) (by kernel_rfl) ⟨⟨_, _, rfl, rfl, ?_⟩, trivial⟩
  refine s_allocY S7 rfl Tryz.zeroValue86 rfl ?_
  intro b12 w9 S10 hl11 hb13
  refine ⟨.of_le hl11, ?_⟩
  have hy14 : Keep (yng w1) w1 w9 := hy8.trans (Keep.of_le hl11)
  refine e_next [11] (by kernel_rfl) (by kernel_rfl) ⟨⟨_, _, rfl, rfl, ?_⟩, trivial⟩
  refine s_stores (vs := [_, _, _, _]) S10 2 rfl rfl rfl rfl (ones_cons rfl (ones_cons rfl (ones_cons rfl (ones_cons rfl ones_nil)))) Tryz.sizeOf86 (by first | exact Nat.le_refl _ | simp) (splice_all rfl) ?_
  intro w15 S16 hk17
  refine ⟨(yng_blk hy8 hb13 hk17), ?_⟩
  have hy18 : Keep (yng w1) w1 w15 := hy14.trans ((yng_blk hy8 hb13 hk17))
  refine e_exact 12 _ (by kernel_rfl) rfl rfl (by kernel_rfl) rfl (ex_x rfl (fun w1 h1 => x_as rfl)) ?_
  refine e_done (by kernel_rfl) ?_
  refine l_nil ?_
  refine r_seq ?_
  refine r_region ?_
  refine l_m rfl ?_
  refine l_callP [] [] [_] rfl rfl Tryz.call241 rfl (c_need _ _) ?_ ?_
  ·skip
   rintro _ w19 ⟨hok21, hl21⟩
   cases hok21
  rintro _ w22 k ⟨hno24, rfl, hl24⟩
  have S23 := S16.step hl24
  exact leaveU_panic Tryz.func218 ⟨rfl, do_redeem0 hk hpl, n, S23.take 1⟩
 refine r_drawE 13 (yng w1) Tryz.mixed (by kernel_rfl) ?_
 intro w25 hl26
 have S27 := S2.step hl26
 have hy28 : Keep (yng w1) w1 w25 := .of_le hl26
 refine e_exact 0 _ (by kernel_rfl) rfl rfl (by kernel_rfl) rfl (ex_x rfl (fun w1 h1 => x_mv rfl)) ?_
 refine e_exact 1 _ (by kernel_rfl) rfl rfl (by kernel_rfl) rfl (ex_x rfl (fun w1 h1 => x_nilCheck rfl)) ?_
 refine e_exact 2 _ (by kernel_rfl) rfl rfl (by kernel_rfl) rfl (ex_x rfl (fun w1 h1 => x_fieldAddr rfl Tryz.runUnderlying96 rfl Tryz.sizeOf93 (by decide))) ?_
 refine e_exact 3 _ (by kernel_rfl) rfl rfl (by kernel_rfl) rfl (ex_x rfl (fun w1 h1 => x_load rfl (ld_blk (roll_blk ((S2.yng (hy28.trans h1)).ro 0 rfl)) Tryz.isAgg93 rfl))) ?_
 refine e_exact 4 _ (by kernel_rfl) rfl rfl (by kernel_rfl) rfl (ex_x rfl (fun w1 h1 => x_fieldAddr rfl Tryz.runUnderlying26 rfl Tryz.sizeOf3 (by decide))) ?_
 refine e_exact 5 _ (by kernel_rfl) rfl rfl (by kernel_rfl) rfl (ex_x rfl (fun w1 h1 => x_load rfl (ld_blk ((S2.yng (hy28.trans h1)).blk 1 rfl) Tryz.isAgg3 rfl))) ?_
 refine e_exact 6 _ (by kernel_rfl) rfl rfl (by kernel_rfl) rfl (ex_x rfl (fun w1 h1 => x_lookup2 (roll_pm ((S2.yng (hy28.trans h1)).ro 0 rfl)) keyI Tryz.runUnderlying93 rfl rfl Tryz.zeroValue86 (show (_ : Value) = .agg (encPl p).toArray from by rw [hpl] <;> rfl) (show _ = true from by rw [hpl] <;> rfl))) ?_
 refine e_exact 7 _ (by kernel_rfl) rfl rfl (by kernel_rfl) rfl (ex_x rfl (fun w1 h1 => x_mv rfl)) ?_
 refine e_exact 8 _ (by kernel_rfl) rfl rfl (by kernel_rfl) rfl (ex_x rfl (fun w1 h1 => x_extract rfl rfl)) ?_
 refine e_exact 9 _ (by kernel_rfl) rfl rfl (by kernel_rfl) rfl (ex_x rfl (fun w1 h1 => x_extract rfl rfl)) ?_
 refine e_next [10] (by kernel_rfl) (by kernel_rfl) ⟨⟨_, _, rfl, rfl, ?_⟩, trivial⟩
 refine s_allocY S27 rfl Tryz.zeroValue86 rfl ?_
 intro b32 w29 S30 hl31 hb33
 refine ⟨.of_le hl31, ?_⟩
 have hy34 : Keep (yng w1) w1 w29 := hy28.trans (Keep.of_le hl31)
 refine e_next [11] (by kernel_rfl) (by kernel_rfl) ⟨⟨_, _, rfl, rfl, ?_⟩, trivial⟩
 refine s_stores (vs := [_, _, _, _]) S30 2 rfl rfl rfl rfl (ones_cons rfl (ones_cons rfl (ones_cons rfl (ones_cons rfl ones_nil)))) Tryz.sizeOf86 (by first | exact Nat.le_refl _ | simp) (splice_all rfl) ?_
 intro w35 S36 hk37
 refine ⟨(yng_blk hy28 hb33 hk37), ?_⟩
 have hy38 : Keep (yng w1) w1 w35 := hy34.trans ((yng_blk hy28 hb33 hk37))
 refine e_exact 12 _ (by kernel_rfl) rfl rfl (by kernel_rfl) rfl (ex_x rfl (fun w1 h1 => x_as rfl)) ?_
 refine e_done (by kernel_rfl) ?_
 refine l_nil ?_
 refine r_seq ?_
 refine r_region ?_
 refine l_m rfl ?_
 refine l_callP [] [] [_] rfl rfl Tryz.call241 rfl (c_need _ _) ?_ ?_
 ·skip
  rintro _ w39 ⟨hok41, hl41⟩
  have S40 := S36.step hl41
  refine l_nil ?_
  obtain ⟨hs, pf, sf, hok, So⟩ := Own.rollOpen (A := [_, _]) ((S40).pick (L' := [_, _, _]) [1, 2, 0] (by decide) rfl)
  refine r_drawR 6 Tryz.mixed (by kernel_rfl) ?_
  refine w_x rfl (fun w1 h1 => x_mv rfl) ?_
  refine w_x rfl (fun w1 h1 => x_nilCheck rfl) ?_
  refine w_x rfl (fun w1 h1 => x_fieldAddr rfl Tryz.runUnderlying96 rfl Tryz.sizeOf93 (by decide)) ?_
  refine w_x rfl (fun w1 h1 => x_load rfl (ld_blk ((So.step h1).blk 2 rfl) Tryz.isAgg93 rfl)) ?_
  refine w_x rfl (fun w1 h1 => x_fieldAddr rfl Tryz.runUnderlying26 rfl Tryz.sizeOf3 (by decide)) ?_
  refine w_x rfl (fun w1 h1 => x_load rfl (ld_blk ((So.step h1).blk 0 rfl) Tryz.isAgg3 rfl)) ?_
  refine w_nil ?_
  intro w42 hl43
  have S44 := So.step hl43
  refine l_delete S44 5 rfl rfl keyI Tryz.runUnderlying93 rfl rfl ?_
  intro w45 S46 hk47
  refine l_nil ?_
  refine p_end (rs := []) [] Tryz.func218 rfl trivial ?_
  exact ⟨n, _, do_redeem hk hpl, Own.rollShut (A := []) (s := redeemS s a.1.of) (S46.pick (L' := [_, _, _, _, _, _, _]) [2, 3, 4, 5, 6, 7, 8] (by decide) rfl) (hok.redeem _)⟩
 rintro _ w48 k ⟨hno50, rfl, hl50⟩
 cases hno50

set_option maxHeartbeats 2000000 in
theorem c_seize (b : Nat) (n : Nm) (s : St) (a : Rw) (hf : formed a.1 = true) (hB : StB s) (hk : a.1.kind = 7)  (w : World) (S0 : Own (rollS TY b n s).fp w w [rollS TY b n s]) :
  Cp Tryz.prog 219 #[.pointer (some ⟨b, 0, none⟩), .agg (encD a).toArray] w (fun _ w' => ∃ n' s', do1 s a.1 = some s' ∧ Own (rollS TY b n s).fp w w' [rollS TY b n' s']) (fun v w' => v = .iface 180 (.agg #[]) ∧ do1 s a.1 = none ∧ ∃ n', Own (rollS TY b n s).fp w w' [rollS TY b n' s]) := by
 refine fn_of_runP (args := [_, _]) 32 Tryz.func219 rfl rfl rfl fun cs => ?_
 have S := S0
 refine r_seq ?_
 refine r_region ?_
 refine l_box S rfl rfl ?_
 intro b4 w1 S2 hl3
 refine l_nil ?_
 refine r_seq ?_
 rcases hpl : plOf s a.1.of with _ | p
 ·skip
  refine r_drawE 13 (yng w1) Tryz.mixed (by kernel_rfl) ?_
  intro w5 hl6
  have S7 := S2.step hl6
  have hy8 : Keep (yng w1) w1 w5 := .of_le hl6
  refine e_exact 0 _ (by kernel_rfl) rfl rfl (by kernel_rfl) rfl (ex_x rfl (fun w1 h1 => x_mv rfl)) ?_
  refine e_exact 1 _ (by kernel_rfl) rfl rfl (by kernel_rfl) rfl (ex_x rfl (fun w1 h1 => x_nilCheck rfl)) ?_
  refine e_exact 2 _ (by kernel_rfl) rfl rfl (by kernel_rfl) rfl (ex_x rfl (fun w1 h1 => x_fieldAddr rfl Tryz.runUnderlying96 rfl Tryz.sizeOf93 (by decide))) ?_
  refine e_exact 3 _ (by kernel_rfl) rfl rfl (by kernel_rfl) rfl (ex_x rfl (fun w1 h1 => x_load rfl (ld_blk (roll_blk ((S2.yng (hy8.trans h1)).ro 0 rfl)) Tryz.isAgg93 rfl))) ?_
  refine e_exact 4 _ (by kernel_rfl) rfl rfl (by kernel_rfl) rfl (ex_x rfl (fun w1 h1 => x_fieldAddr rfl Tryz.runUnderlying26 rfl Tryz.sizeOf3 (by decide))) ?_
  refine e_exact 5 _ (by kernel_rfl) rfl rfl (by kernel_rfl) rfl (ex_x rfl (fun w1 h1 => x_load rfl (ld_blk ((S2.yng (hy8.trans h1)).blk 1 rfl) Tryz.isAgg3 rfl))) ?_
  refine e_exact 6 _ (by kernel_rfl) rfl rfl (by kernel_rfl) rfl (ex_x rfl (fun w1 h1 => x_lookup2 (roll_pm ((S2.yng (hy8.trans h1)).ro 0 rfl)) keyI Tryz.runUnderlying93 rfl rfl Tryz.zeroValue86 (show (_ : Value) = .agg (encPl ⟨0, 0, 0, 0⟩).toArray from by rw [hpl] <;> rfl) (show _ = false from by rw [hpl] <;> rfl))) ?_
  refine e_exact 7 _ (by kernel_rfl) rfl rfl (by kernel_rfl) rfl (ex_x rfl (fun w1 h1 => x_mv rfl)) ?_
  refine e_exact 8 _ (by kernel_rfl) rfl rfl (by kernel_rfl) rfl (ex_x rfl (fun w1 h1 => x_extract rfl rfl)) ?_
  refine e_exact 9 _ (by kernel_rfl) rfl rfl (by kernel_rfl) rfl (ex_x rfl (fun w1 h1 => x_extract rfl rfl)) ?_
  refine e_next [10] (by kernel_rfl) (by kernel_rfl) ⟨⟨_, _, rfl, rfl, ?_⟩, trivial⟩
  refine s_allocY S7 rfl Tryz.zeroValue86 rfl ?_
  intro b12 w9 S10 hl11 hb13
  refine ⟨.of_le hl11, ?_⟩
  have hy14 : Keep (yng w1) w1 w9 := hy8.trans (Keep.of_le hl11)
  refine e_next [11] (by kernel_rfl) (by kernel_rfl) ⟨⟨_, _, rfl, rfl, ?_⟩, trivial⟩
  refine s_stores (vs := [_, _, _, _]) S10 2 rfl rfl rfl rfl (ones_cons rfl (ones_cons rfl (ones_cons rfl (ones_cons rfl ones_nil)))) Tryz.sizeOf86 (by first | exact Nat.le_refl _ | simp) (splice_all rfl) ?_
  intro w15 S16 hk17
  refine ⟨(yng_blk hy8 hb13 hk17), ?_⟩
  have hy18 : Keep (yng w1) w1 w15 := hy14.trans ((yng_blk hy8 hb13 hk17))
  refine e_exact 12 _ (by kernel_rfl) rfl rfl (by kernel_rfl) rfl (ex_x rfl (fun w1 h1 => x_as rfl)) ?_
  refine e_done (by kernel_rfl) ?_
  refine l_nil ?_
  refine r_seq ?_
  refine r_region ?_
  refine l_m rfl ?_
  refine l_callP [] [] [_] rfl rfl Tryz.call241 rfl (c_need _ _) ?_ ?_
  ·skip
   rintro _ w19 ⟨hok21, hl21⟩
   cases hok21
  rintro _ w22 k ⟨hno24, rfl, hl24⟩
  have S23 := S16.step hl24
  exact leaveU_panic Tryz.func219 ⟨rfl, do_seize0 hk hpl, n, S23.take 1⟩
 refine r_drawE 13 (yng w1) Tryz.mixed (by kernel_rfl) ?_
 intro w25 hl26
 have S27 := S2.step hl26
 have hy28 : Keep (yng w1) w1 w25 := .of_le hl26
 refine e_exact 0 _ (by kernel_rfl) rfl rfl (by kernel_rfl) rfl (ex_x rfl (fun w1 h1 => x_mv rfl)) ?_
 refine e_exact 1 _ (by kernel_rfl) rfl rfl (by kernel_rfl) rfl (ex_x rfl (fun w1 h1 => x_nilCheck rfl)) ?_
 refine e_exact 2 _ (by kernel_rfl) rfl rfl (by kernel_rfl) rfl (ex_x rfl (fun w1 h1 => x_fieldAddr rfl Tryz.runUnderlying96 rfl Tryz.sizeOf93 (by decide))) ?_
 refine e_exact 3 _ (by kernel_rfl) rfl rfl (by kernel_rfl) rfl (ex_x rfl (fun w1 h1 => x_load rfl (ld_blk (roll_blk ((S2.yng (hy28.trans h1)).ro 0 rfl)) Tryz.isAgg93 rfl))) ?_
 refine e_exact 4 _ (by kernel_rfl) rfl rfl (by kernel_rfl) rfl (ex_x rfl (fun w1 h1 => x_fieldAddr rfl Tryz.runUnderlying26 rfl Tryz.sizeOf3 (by decide))) ?_
 refine e_exact 5 _ (by kernel_rfl) rfl rfl (by kernel_rfl) rfl (ex_x rfl (fun w1 h1 => x_load rfl (ld_blk ((S2.yng (hy28.trans h1)).blk 1 rfl) Tryz.isAgg3 rfl))) ?_
 refine e_exact 6 _ (by kernel_rfl) rfl rfl (by kernel_rfl) rfl (ex_x rfl (fun w1 h1 => x_lookup2 (roll_pm ((S2.yng (hy28.trans h1)).ro 0 rfl)) keyI Tryz.runUnderlying93 rfl rfl Tryz.zeroValue86 (show (_ : Value) = .agg (encPl p).toArray from by rw [hpl] <;> rfl) (show _ = true from by rw [hpl] <;> rfl))) ?_
 refine e_exact 7 _ (by kernel_rfl) rfl rfl (by kernel_rfl) rfl (ex_x rfl (fun w1 h1 => x_mv rfl)) ?_
 refine e_exact 8 _ (by kernel_rfl) rfl rfl (by kernel_rfl) rfl (ex_x rfl (fun w1 h1 => x_extract rfl rfl)) ?_
 refine e_exact 9 _ (by kernel_rfl) rfl rfl (by kernel_rfl) rfl (ex_x rfl (fun w1 h1 => x_extract rfl rfl)) ?_
 refine e_next [10] (by kernel_rfl) (by kernel_rfl) ⟨⟨_, _, rfl, rfl, ?_⟩, trivial⟩
 refine s_allocY S27 rfl Tryz.zeroValue86 rfl ?_
 intro b32 w29 S30 hl31 hb33
 refine ⟨.of_le hl31, ?_⟩
 have hy34 : Keep (yng w1) w1 w29 := hy28.trans (Keep.of_le hl31)
 refine e_next [11] (by kernel_rfl) (by kernel_rfl) ⟨⟨_, _, rfl, rfl, ?_⟩, trivial⟩
 refine s_stores (vs := [_, _, _, _]) S30 2 rfl rfl rfl rfl (ones_cons rfl (ones_cons rfl (ones_cons rfl (ones_cons rfl ones_nil)))) Tryz.sizeOf86 (by first | exact Nat.le_refl _ | simp) (splice_all rfl) ?_
 intro w35 S36 hk37
 refine ⟨(yng_blk hy28 hb33 hk37), ?_⟩
 have hy38 : Keep (yng w1) w1 w35 := hy34.trans ((yng_blk hy28 hb33 hk37))
 refine e_exact 12 _ (by kernel_rfl) rfl rfl (by kernel_rfl) rfl (ex_x rfl (fun w1 h1 => x_as rfl)) ?_
 refine e_done (by kernel_rfl) ?_
 refine l_nil ?_
 refine r_seq ?_
 refine r_region ?_
 refine l_m rfl ?_
 refine l_callP [] [] [_] rfl rfl Tryz.call241 rfl (c_need _ _) ?_ ?_
 ·skip
  rintro _ w39 ⟨hok41, hl41⟩
  have S40 := S36.step hl41
  refine l_nil ?_
  refine r_seq ?_
  obtain ⟨hs, pf, sf, hok, So⟩ := Own.rollOpen (A := [_, _]) ((S40).pick (L' := [_, _, _]) [1, 2, 0] (by decide) rfl)
  refine r_drawR 6 Tryz.mixed (by kernel_rfl) ?_
  refine w_x rfl (fun w1 h1 => x_mv rfl) ?_
  refine w_x rfl (fun w1 h1 => x_nilCheck rfl) ?_
  refine w_x rfl (fun w1 h1 => x_fieldAddr rfl Tryz.runUnderlying96 rfl Tryz.sizeOf93 (by decide)) ?_
  refine w_x rfl (fun w1 h1 => x_load rfl (ld_blk ((So.step h1).blk 2 rfl) Tryz.isAgg93 rfl)) ?_
  refine w_x rfl (fun w1 h1 => x_fieldAddr rfl Tryz.runUnderlying26 rfl Tryz.sizeOf3 (by decide)) ?_
  refine w_x rfl (fun w1 h1 => x_load rfl (ld_blk ((So.step h1).blk 0 rfl) Tryz.isAgg3 rfl)) ?_
  refine w_nil ?_
  intro w42 hl43
  have S44 := So.step hl43
  refine l_delete S44 5 rfl rfl keyI Tryz.runUnderlying93 rfl rfl ?_
  intro w45 S46 hk47
  refine l_nil ?_
  have Ss := Own.rollShut (A := [_, _]) (s := redeemS s a.1.of) S46 (hok.redeem _)
  refine r_region ?_
  refine l_m rfl ?_
  refine l_x rfl (x_fieldAddr rfl Tryz.runUnderlying86 rfl Tryz.sizeOf3 (by decide)) ?_
  refine l_x rfl (x_load rfl (ld_blk (Ss.blk 1 rfl) Tryz.isAgg3 rfl)) ?_
  refine l_x rfl (x_fieldAddr rfl Tryz.runUnderlying86 rfl Tryz.sizeOf3 (by decide)) ?_
  refine l_x rfl (x_load rfl (ld_blk (Ss.blk 1 rfl) Tryz.isAgg3 rfl)) ?_
  refine l_x rfl (x_fieldAddr rfl Tryz.runUnderlying86 rfl Tryz.sizeOf3 (by decide)) ?_
  refine l_x rfl (x_load rfl (ld_blk (Ss.blk 1 rfl) Tryz.isAgg3 rfl)) ?_
  refine l_call [] [] [_, _, _, _] rfl rfl Tryz.call243 rfl (c_move b n (redeemS s a.1.of) p.frm p.to p.parts (hB.po p (plOf_mem hpl).1).1 (hB.po p (plOf_mem hpl).1).2 (hB.redeem _) (by have := hB.pp p (plOf_mem hpl).1; omega) _ (Ss.lend 2 rfl)) ?_
  rintro _ w48 ⟨nn50, hb51⟩
  have S49 := Ss.back 2 rfl hb51
  refine l_nil ?_
  refine p_end (rs := []) [] Tryz.func219 rfl trivial ?_
  exact ⟨nn50, _, do_seize hk hpl, S49.pick (L' := [_]) [2] (by decide) rfl⟩
 rintro _ w52 k ⟨hno54, rfl, hl54⟩
 cases hno54

end Go.Proofs

namespace Go.Proofs
open Go Go.Vk Go.Vk.Flow

open Go.Vk.Deed

theorem c_within (a l h : Int) (w : World) :
  Cl Tryz.prog 90 #[.int .i64 a, .int .i64 l, .int .i64 h] w fun v w' => v = .bool (rng a l h) ∧ Le w w' := by
 refine fn_of_run (args := [_, _, _]) 15 Tryz.func90 rfl rfl rfl fun cs => ?_
 have S := Own.start (X := nob) w
 refine r_seq ?_
 refine r_region ?_
 refine l_a rfl ?_
 refine l_nil ?_
 refine r_seq ?_
 refine r_region ?_
 refine l_m rfl ?_
 refine l_m rfl ?_
 refine l_x rfl (x_geq rfl rfl) ?_
 refine l_m rfl ?_
 refine l_splitd (d := 10) rfl (fun hg10 => ?_) (fun hg10 => ?_)
 ·skip
  refine l_m rfl ?_
  refine l_m rfl ?_
  refine l_x rfl (x_leq rfl rfl) ?_
  refine l_x rfl (x_pick_t rfl rfl) ?_
  refine l_a rfl ?_
  refine l_nil ?_
  refine r_ret (rs := [.tmp 6]) [_] Tryz.func90 rfl ⟨rfl, trivial⟩ ?_
  exact ⟨congrArg Value.bool (by unfold rng; first | (apply decE; omega) | (apply decF; omega)), S.le⟩
 refine l_pass rfl ?_
 refine l_pass rfl ?_
 refine l_pass rfl ?_
 refine l_x rfl (x_pick_f rfl rfl) ?_
 refine l_a rfl ?_
 refine l_nil ?_
 refine r_ret (rs := [.tmp 6]) [_] Tryz.func90 rfl ⟨rfl, trivial⟩ ?_
 exact ⟨congrArg Value.bool (by unfold rng; first | (apply decE; omega) | (apply decF; omega)), S.le⟩

theorem c_Whole1 (a b : Int) (w : World) :
  Cl Tryz.prog 96 #[.int .i64 a, .int .i64 b] w fun v w' => v = .int .i64 (cmpI b a) ∧ Le w w' := by
 refine fn_of_run (args := [_, _]) 8 Tryz.func96 rfl rfl rfl fun cs => ?_
 have S := Own.start (X := nob) w
 refine r_seq ?_
 refine r_region ?_
 refine l_a rfl ?_
 refine l_nil ?_
 refine r_seq ?_
 refine r_region ?_
 refine l_m rfl ?_
 refine l_m rfl ?_
 refine l_call [] [] [_, _] rfl rfl Tryz.call97 rfl (c_Compare _ _ _) ?_
 rintro _ w1 ⟨rfl, hl3⟩
 have S2 := S.step hl3
 refine l_a rfl ?_
 refine l_nil ?_
 refine r_ret (rs := [.tmp 4]) [_] Tryz.func96 rfl ⟨rfl, trivial⟩ ?_
 exact ⟨rfl, S2.le⟩

set_option maxHeartbeats 2000000 in
theorem c_insSort (v0 : Value) (n : Nat) (c : Int → Int) (kf : Nat) (caps : List Value) (hn : 1 ≤ n ∧ n ≤ 1000) (w : World) (he : ∀ args w, (callFunc kf args).run Tryz.prog w = .ok (.enter kf args) w)
  (hf : ∀ x y : Int, (0 ≤ x ∧ x < n) → (0 ≤ y ∧ y < n) → ∀ w1, Keep (vec EI v0 (idxs n)).fp w w1 → Cl Tryz.prog kf ([Value.int .i64 x, Value.int .i64 y] ++ caps).toArray w1 fun v w2 => v = .int .i64 (cmpI (c y) (c x)) ∧ Le w1 w2) (S : Own (vec EI v0 (idxs n)).fp w w [vec EI v0 (idxs n)]) :
  Cl Tryz.prog 185 #[v0, .int .i64 0, .int .i64 n, .func (.func kf) #[] caps.toArray] w fun _ w' => ∃ L, L.Perm (idxs n) ∧ L.Pairwise (Fst c) ∧ Own (vec EI v0 (idxs n)).fp w w' [vec EI v0 L] := by
 refine fn_of_run (args := [_, _, _, _]) 53 Tryz.func185 rfl rfl rfl fun cs => ?_
 refine r_seq ?_
 refine r_region ?_
 refine l_m rfl ?_
 refine l_x rfl (x_add rfl rfl (by omega)) ?_
 refine l_a rfl ?_
 refine l_nil ?_
 refine r_block ?_
 refine r_loop (G := Nat × List Int) (fun ⟨i, L⟩ => n - i) (fun ⟨i, L⟩ => [(0, v0), (1, .int .i64 0), (2, .int .i64 n), (3, .func (.func kf) #[] caps.toArray), (8, .int .i64 i)]) (fun ⟨i, L⟩ w' => (InsO c n i L) ∧ Own (vec EI v0 (idxs n)).fp w w' [vec EI v0 L]) (1, idxs n) ⟨rfl, rfl, rfl, rfl, rfl, trivial⟩ ⟨.start hn.1, S⟩ ?_
 rintro ⟨i, L⟩ ρ w1 ⟨hO, S1⟩ IH
 have hle := hO.le
 refine r_seq ?_
 refine r_seq ?_
 refine r_region ?_
 refine l_m rfl ?_
 refine l_m rfl ?_
 refine l_x rfl (x_lss rfl rfl) ?_
 refine l_nil ?_
 refine r_ifd rfl (fun hc14 => ?_) (fun hc14 => ?_)
 ·skip
  refine r_skip ?_
  refine r_seq ?_
  refine r_block ?_
  refine r_seq ?_
  refine r_region ?_
  refine l_m rfl ?_
  refine l_a rfl ?_
  refine l_nil ?_
  refine r_block ?_
  refine r_loop (G := Nat × List Int) (fun ⟨j, L1⟩ => j) (fun ⟨j, L1⟩ => [(0, v0), (1, .int .i64 0), (2, .int .i64 n), (3, .func (.func kf) #[] caps.toArray), (8, .int .i64 i), (9, .int .i64 j)]) (fun ⟨j, L1⟩ w' => (InsI c n i j L1) ∧ Own (vec EI v0 (idxs n)).fp w w' [vec EI v0 L1]) (i, L) ⟨rfl, rfl, rfl, rfl, rfl, rfl, trivial⟩ ⟨hO.take (by omega), S1⟩ ?_
  rintro ⟨j, L1⟩ ρ w1b ⟨hI, S1b⟩ IHb
  have hln := hI.len
  have hlt := hI.lt
  refine r_seq ?_
  refine r_seq ?_
  refine r_drawR 14 Tryz.mixed (by kernel_rfl) ?_
  refine w_x rfl (fun w1 h1 => x_mv rfl) ?_
  refine w_x rfl (fun w1 h1 => x_mv rfl) ?_
  refine w_x rfl (fun w1 h1 => x_gtr rfl rfl) ?_
  refine w_x rfl (fun w1 h1 => x_mv rfl) ?_
  refine w_splitd (d := 21) rfl (fun hg21 => ?_) (fun hg21 => ?_)
  ·skip
   obtain ⟨y, hy, hy0, hy1⟩ := hI.prev (by omega)
   refine w_x rfl (fun w1 h1 => x_mv rfl) ?_
   refine w_x rfl (fun w1 h1 => x_mv rfl) ?_
   refine w_x rfl (fun w1 h1 => x_mv rfl) ?_
   refine w_index EI rfl (vec_rd (S1b.at 0 rfl)) rfl rfl Tryz.runUnderlying24 Tryz.sizeOf3 (by omega) hI.at ?_
   intro b1 o2 hat3 row4
   refine w_x rfl (fun w1 h1 => x_load rfl (ld_cell Tryz.isAgg3 ((row4.le h1) 0 _ rfl))) ?_
   refine w_x rfl (fun w1 h1 => x_mv rfl) ?_
   refine w_x rfl (fun w1 h1 => x_mv rfl) ?_
   refine w_x rfl (fun w1 h1 => x_sub rfl rfl (by omega)) ?_
   refine w_index EI rfl (vec_rd (S1b.at 0 rfl)) rfl rfl Tryz.runUnderlying24 Tryz.sizeOf3 (by omega) (by rw [show ((j : Int) - 1).toNat = j - 1 by omega]; exact hy) ?_
   intro b5 o6 hat7 row8
   refine w_x rfl (fun w1 h1 => x_load rfl (ld_cell Tryz.isAgg3 ((row8.le h1) 0 _ rfl))) ?_
   refine w_nil ?_
   intro w9 hl10
   have S11 := S1b.step hl10
   refine l_call [] caps ([_, _] ++ caps) rfl rfl he rfl (hf (i : Int) y ⟨by omega, by omega⟩ ⟨by omega, by omega⟩ _ S11.keep) ?_
   rintro _ w12 ⟨rfl, hl14⟩
   have S13 := S11.step hl14
   refine l_x rfl (x_lss rfl rfl) ?_
   refine l_x rfl (x_pick_t rfl rfl) ?_
   refine l_nil ?_
   refine r_ifd rfl (fun hc34 => ?_) (fun hc34 => ?_)
   ·skip
    refine r_skip ?_
    refine r_seq ?_
    refine r_block ?_
    refine r_drawE 16 (Rsc.fp (vec EI v0 L1)) Tryz.mixed (by kernel_rfl) ?_
    intro w15 hl16
    have S17 := S13.step hl16
    refine e_exact 0 _ (by kernel_rfl) rfl rfl (by kernel_rfl) rfl (ex_x rfl (fun w1 h1 => x_mv rfl)) ?_
    refine e_exact 1 _ (by kernel_rfl) rfl rfl (by kernel_rfl) rfl (ex_x rfl (fun w1 h1 => x_mv rfl)) ?_
    refine e_exact 2 _ (by kernel_rfl) rfl rfl (by kernel_rfl) rfl (ex_x rfl (fun w1 h1 => x_mv rfl)) ?_
    refine e_exact 3 _ (by kernel_rfl) rfl rfl (by kernel_rfl) rfl (ex_x rfl (fun w1 h1 => x_mv rfl)) ?_
    refine e_exact 4 _ (by kernel_rfl) rfl rfl (by kernel_rfl) rfl (ex_x rfl (fun w1 h1 => x_sub rfl rfl (by omega))) ?_
    refine e_exact 5 _ (by kernel_rfl) rfl rfl (by kernel_rfl) rfl (ex_x rfl (fun w1 h1 => x_mv rfl)) ?_
    refine e_exact 6 _ (by kernel_rfl) rfl rfl (by kernel_rfl) rfl (ex_x rfl (fun w1 h1 => x_mv rfl)) ?_
    refine e_exact 7 _ (by kernel_rfl) rfl rfl (by kernel_rfl) rfl (ex_x rfl (fun w1 h1 => x_sub rfl rfl (by omega))) ?_
    refine e_index EI 8 (by kernel_rfl) rfl rfl (by kernel_rfl) rfl rfl (vec_rd (S17.at 0 rfl)) rfl rfl Tryz.runUnderlying24 Tryz.sizeOf3 (by omega) (by rw [show ((j : Int) - 1).toNat = j - 1 by omega]; exact hy) ?_
    intro b18 o19 hat20
    refine e_exact 10 _ (by kernel_rfl) rfl rfl (by kernel_rfl) rfl (ex_x rfl (fun w1 h1 => x_mv rfl)) ?_
    refine e_exact 11 _ (by kernel_rfl) rfl rfl (by kernel_rfl) rfl (ex_x rfl (fun w1 h1 => x_mv rfl)) ?_
    refine e_index EI 12 (by kernel_rfl) rfl rfl (by kernel_rfl) rfl rfl (vec_rd (S17.at 0 rfl)) rfl rfl Tryz.runUnderlying24 Tryz.sizeOf3 (by omega) hI.at ?_
    intro b21 o22 hat23
    refine e_next [9, 13] (by kernel_rfl) (by kernel_rfl) ⟨⟨_, _, rfl, rfl, ?_⟩, ⟨_, _, rfl, rfl, ?_⟩, trivial⟩
    ·skip
     refine s_x rfl (x_load rfl (ld_cell Tryz.isAgg3 ((rd_row (vec_rd (S17.at 0 rfl)) hat20 (by rw [show ((j : Int) - 1).toNat = j - 1 by omega]; exact hy)) 0 _ rfl))) ?_
     refine ⟨Keep.refl _ _, ?_⟩
     refine e_next [13] (by kernel_rfl) (by kernel_rfl) ⟨⟨_, _, rfl, rfl, ?_⟩, trivial⟩
     refine s_x rfl (x_load rfl (ld_cell Tryz.isAgg3 ((rd_row (vec_rd (S17.at 0 rfl)) hat23 hI.at) 0 _ rfl))) ?_
     refine ⟨Keep.refl _ _, ?_⟩
     refine e_index EI 14 (by kernel_rfl) rfl rfl (by kernel_rfl) rfl rfl (vec_rd (S17.at 0 rfl)) rfl rfl Tryz.runUnderlying24 Tryz.sizeOf3 (by omega) hI.at ?_
     intro b24 o25 hat26
     refine e_next [15] (by kernel_rfl) (by kernel_rfl) ⟨⟨_, _, rfl, rfl, ?_⟩, trivial⟩
     refine s_storevi (f := 0) S17 0 rfl rfl hat26 rfl rfl Tryz.sizeOf3 hI.at (by decide) rfl ?_
     intro w27 S28 hk29
     refine ⟨hk29, ?_⟩
     refine e_done (by kernel_rfl) ?_
     refine l_index EI rfl (vec_rd (S28.at 0 rfl)) rfl rfl Tryz.runUnderlying24 Tryz.sizeOf3 (by omega) (by rw [show ((j : Int) - 1).toNat = j - 1 by omega, List.getElem?_set_ne (by simp; omega)]; exact hy) ?_
     intro b30 o31 hat32 row33
     refine l_storevi (f := 0) S28 0 rfl rfl hat32 rfl rfl Tryz.sizeOf3 (by rw [show ((j : Int) - 1).toNat = j - 1 by omega, List.getElem?_set_ne (by simp; omega)]; exact hy) (by decide) rfl ?_
     intro w34 S35 hk36
     refine l_nil ?_
     refine r_inBlock ?_
     refine r_region ?_
     refine l_m rfl ?_
     refine l_x rfl (x_sub rfl rfl (by omega)) ?_
     refine l_a rfl ?_
     refine l_nil ?_
     exact IHb (j - 1, (L1.set j y).set (j - 1) i) _ _ (by dsimp only; omega) ⟨rfl, rfl, rfl, rfl, rfl, (congrArg (Value.int .i64) (by omega)), trivial⟩ ⟨hI.down (by omega) hy (cmpI_neg.1 hc34), (by have h := S35; rw [show ((j : Int) - 1).toNat = j - 1 by omega] at h; exact h)⟩
    refine s_x rfl (x_load rfl (ld_cell Tryz.isAgg3 ((rd_row (vec_rd (S17.at 0 rfl)) hat23 hI.at) 0 _ rfl))) ?_
    refine ⟨Keep.refl _ _, ?_⟩
    refine e_next [9] (by kernel_rfl) (by kernel_rfl) ⟨⟨_, _, rfl, rfl, ?_⟩, trivial⟩
    refine s_x rfl (x_load rfl (ld_cell Tryz.isAgg3 ((rd_row (vec_rd (S17.at 0 rfl)) hat20 (by rw [show ((j : Int) - 1).toNat = j - 1 by omega]; exact hy)) 0 _ rfl))) ?_
    refine ⟨Keep.refl _ _, ?_⟩
    refine e_index EI 14 (by kernel_rfl) rfl rfl (by kernel_rfl) rfl rfl (vec_rd (S17.at 0 rfl)) rfl rfl Tryz.runUnderlying24 Tryz.sizeOf3 (by omega) hI.at ?_
    intro b37 o38 hat39
    refine e_next [15] (by kernel_rfl) (by kernel_rfl) ⟨⟨_, _, rfl, rfl, ?_⟩, trivial⟩
    refine s_storevi (f := 0) S17 0 rfl rfl hat39 rfl rfl Tryz.sizeOf3 hI.at (by decide) rfl ?_
    intro w40 S41 hk42
    refine ⟨hk42, ?_⟩
    refine e_done (by kernel_rfl) ?_
    refine l_index EI rfl (vec_rd (S41.at 0 rfl)) rfl rfl Tryz.runUnderlying24 Tryz.sizeOf3 (by omega) (by rw [show ((j : Int) - 1).toNat = j - 1 by omega, List.getElem?_set_ne (by simp; omega)]; exact hy) ?_
    intro b43 o44 hat45 row46
    refine l_storevi (f := 0) S41 0 rfl rfl hat45 rfl rfl Tryz.sizeOf3 (by rw [show ((j : Int) - 1).toNat = j - 1 by omega, List.getElem?_set_ne (by simp; omega)]; exact hy) (by decide) rfl ?_
    intro w47 S48 hk49
    refine l_nil ?_
    refine r_inBlock ?_
    refine r_region ?_
    refine l_m rfl ?_
    refine l_x rfl (x_sub rfl rfl (by omega)) ?_
    refine l_a rfl ?_
    refine l_nil ?_
    exact IHb (j - 1, (L1.set j y).set (j - 1) i) _ _ (by dsimp only; omega) ⟨rfl, rfl, rfl, rfl, rfl, (congrArg (Value.int .i64) (by omega)), trivial⟩ ⟨hI.down (by omega) hy (cmpI_neg.1 hc34), (by have h := S48; rw [show ((j : Int) - 1).toNat = j - 1 by omega] at h; exact h)⟩
   have hst : 0 < j → ∀ y, L1[j - 1]? = some y → ¬ c y < c i := fun _ z hz => by
    rw [hy] at hz; cases hz
    exact fun h => hc34 (cmpI_neg.2 h)
   refine r_exit rfl ?_
   refine r_inBlock ?_
   refine r_region ?_
   refine l_m rfl ?_
   refine l_x rfl (x_add rfl rfl (by omega)) ?_
   refine l_a rfl ?_
   refine l_nil ?_
   exact IH (i + 1, L1) _ _ (by dsimp only; omega) ⟨rfl, rfl, rfl, rfl, rfl, trivial⟩ ⟨hI.stop hst, S13⟩
  have hst : 0 < j → ∀ y, L1[j - 1]? = some y → ¬ c y < c i := fun h => absurd h (by omega)
  refine w_pass rfl ?_
  refine w_pass rfl ?_
  refine w_pass rfl ?_
  refine w_pass rfl ?_
  refine w_pass rfl ?_
  refine w_pass rfl ?_
  refine w_pass rfl ?_
  refine w_pass rfl ?_
  refine w_pass rfl ?_
  refine w_pass rfl ?_
  refine w_nil ?_
  intro w50 hl51
  have S52 := S1b.step hl51
  refine l_pass rfl ?_
  refine l_pass rfl ?_
  refine l_x rfl (x_pick_f rfl rfl) ?_
  refine l_nil ?_
  refine r_false rfl ?_
  refine r_exit rfl ?_
  refine r_inBlock ?_
  refine r_region ?_
  refine l_m rfl ?_
  refine l_x rfl (x_add rfl rfl (by omega)) ?_
  refine l_a rfl ?_
  refine l_nil ?_
  exact IH (i + 1, L1) _ _ (by dsimp only; omega) ⟨rfl, rfl, rfl, rfl, rfl, trivial⟩ ⟨hI.stop hst, S52⟩
 obtain rfl : i = n := by omega
 obtain ⟨hp, hs⟩ := hO.done
 refine r_exit rfl ?_
 refine r_end (rs := []) [] Tryz.func185 rfl trivial ?_
 exact ⟨L, hp, hs, S1⟩

theorem c_stable (v0 : Value) (n : Nat) (c : Int → Int) (kf : Nat) (caps : List Value) (hn : 1 ≤ n ∧ n ≤ 19) (w : World) (he : ∀ args w, (callFunc kf args).run Tryz.prog w = .ok (.enter kf args) w)
  (hf : ∀ x y : Int, (0 ≤ x ∧ x < n) → (0 ≤ y ∧ y < n) → ∀ w1, Keep (vec EI v0 (idxs n)).fp w w1 → Cl Tryz.prog kf ([Value.int .i64 x, Value.int .i64 y] ++ caps).toArray w1 fun v w2 => v = .int .i64 (cmpI (c y) (c x)) ∧ Le w1 w2) (S : Own (vec EI v0 (idxs n)).fp w w [vec EI v0 (idxs n)]) :
  Cl Tryz.prog 172 #[v0, .int .i64 n, .func (.func kf) #[] caps.toArray] w fun _ w' => ∃ L, L.Perm (idxs n) ∧ L.Pairwise (Fst c) ∧ Own (vec EI v0 (idxs n)).fp w w' [vec EI v0 L] := by
 refine fn_of_run (args := [_, _, _]) 63 Tryz.func172 rfl rfl rfl fun cs => ?_
 refine r_seq ?_
 refine r_region ?_
 refine l_a rfl ?_
 refine l_nil ?_
 refine r_seq ?_
 refine r_region ?_
 refine l_m rfl ?_
 refine l_a rfl ?_
 refine l_a rfl ?_
 refine l_nil ?_
 refine r_seq ?_
 refine r_block ?_
 refine r_loop0 ?_
 refine r_seq ?_
 refine r_seq ?_
 refine r_region ?_
 refine l_m rfl ?_
 refine l_m rfl ?_
 refine l_x rfl (x_leq rfl rfl) ?_
 refine l_nil ?_
 refine r_ifd rfl (fun hc13 => ?_) (fun hc13 => ?_)
 ·exact absurd hc13 (by omega)
 refine r_exit rfl ?_
 refine r_seq ?_
 refine r_region ?_
 refine l_m rfl ?_
 refine l_m rfl ?_
 refine l_m rfl ?_
 refine l_m rfl ?_
 refine l_call [] [] [_, _, _, _] rfl rfl Tryz.call185 rfl (c_insSort v0 n c kf caps ⟨hn.1, by omega⟩ _ he (fun x y hx hy w1 h1 => hf x y hx hy w1 (S.keep.trans h1)) (S.lend 0 rfl)) ?_
 rintro _ w1 ⟨L, hp, hs, h2⟩
 have S3 := S.back 0 rfl h2
 refine l_nil ?_
 refine r_block ?_
 refine r_loop0 ?_
 refine r_seq ?_
 refine r_seq ?_
 refine r_region ?_
 refine l_m rfl ?_
 refine l_m rfl ?_
 refine l_x rfl (x_lss rfl rfl) ?_
 refine l_nil ?_
 refine r_ifd rfl (fun hc30 => ?_) (fun hc30 => ?_)
 ·exact absurd hc30 (by omega)
 refine r_exit rfl ?_
 refine r_end (rs := []) [] Tryz.func172 rfl trivial ?_
 exact ⟨L, hp, hs, S3⟩

theorem c_SortStable (v0 : Value) (n : Nat) (c : Int → Int) (kf : Nat) (caps : List Value) (hn : 1 ≤ n ∧ n ≤ 19) (w : World) (he : ∀ args w, (callFunc kf args).run Tryz.prog w = .ok (.enter kf args) w)
  (hf : ∀ x y : Int, (0 ≤ x ∧ x < n) → (0 ≤ y ∧ y < n) → ∀ w1, Keep (vec EI v0 (idxs n)).fp w w1 → Cl Tryz.prog kf ([Value.int .i64 x, Value.int .i64 y] ++ caps).toArray w1 fun v w2 => v = .int .i64 (cmpI (c y) (c x)) ∧ Le w1 w2) (S : Own (vec EI v0 (idxs n)).fp w w [vec EI v0 (idxs n)]) :
  Cl Tryz.prog 140 #[v0, .func (.func kf) #[] caps.toArray] w fun _ w' => ∃ L, L.Perm (idxs n) ∧ L.Pairwise (Fst c) ∧ Own (vec EI v0 (idxs n)).fp w w' [vec EI v0 L] := by
 have hil := idxs_len (n := n)
 refine fn_of_run (args := [_, _]) 9 Tryz.func140 rfl rfl rfl fun cs => ?_
 refine r_region ?_
 refine l_m rfl ?_
 refine l_m rfl ?_
 refine l_x rfl (x_len (vec_rd (S.at 0 rfl)) rfl Tryz.runUnderlying24) ?_
 refine l_slot 6 (.int .i64 (n : Int)) (congrArg (fun q : Nat => Value.int .i64 (q : Int)) idxs_len) ?_
 refine l_m rfl ?_
 refine l_call [] [] [_, _, _] rfl rfl Tryz.call172 rfl (c_stable v0 n c kf caps hn _ he (fun x y hx hy w1 h1 => hf x y hx hy w1 (S.keep.trans h1)) (S.lend 0 rfl)) ?_
 rintro _ w1 ⟨L, hp, hs, h2⟩
 have S3 := S.back 0 rfl h2
 refine l_nil ?_
 refine r_end (rs := []) [] Tryz.func140 rfl trivial ?_
 exact ⟨L, hp, hs, S3⟩

theorem c_sorted1 (cuts : List Int) (vc : Value) (bf bs : Nat) (i k x y : Int) (hi : 0 ≤ i) (hk : 0 ≤ k) (hx : cuts[i.toNat]? = some x) (hy : cuts[k.toNat]? = some y) (w : World) (hF : Blk w bf [.func (.func 96) #[] #[]] 116) (hS : Blk w bs [vc] 24) (hC : Rd EI w vc cuts) :
  Cl Tryz.prog 141 #[.int .i64 i, .int .i64 k, .pointer (some ⟨bf, 0, none⟩), .pointer (some ⟨bs, 0, none⟩)] w fun v w' => v = .int .i64 (cmpI y x) ∧ Le w w' := by
 refine fn_of_run (args := [_, _, _, _]) 17 Tryz.func141 rfl rfl rfl fun cs => ?_
 have S := Own.start (X := nob) w
 refine r_seq ?_
 refine r_region ?_
 refine l_a rfl ?_
 refine l_nil ?_
 refine r_seq ?_
 refine r_drawR 9 Tryz.mixed (by kernel_rfl) ?_
 refine w_x rfl (fun w1 h1 => x_load rfl (ld_blk (hF.keep (S.step h1).le id) Tryz.isAgg116 rfl)) ?_
 refine w_x rfl (fun w1 h1 => x_load rfl (ld_blk (hS.keep (S.step h1).le id) Tryz.isAgg24 rfl)) ?_
 refine w_x rfl (fun w1 h1 => x_mv rfl) ?_
 refine w_index EI rfl (hC.le S.le) rfl rfl Tryz.runUnderlying24 Tryz.sizeOf3 (by omega) hx ?_
 intro b1 o2 hat3 row4
 refine w_x rfl (fun w1 h1 => x_load rfl (ld_cell Tryz.isAgg3 ((row4.le h1) 0 _ rfl))) ?_
 refine w_x rfl (fun w1 h1 => x_load rfl (ld_blk (hS.keep (S.step h1).le id) Tryz.isAgg24 rfl)) ?_
 refine w_x rfl (fun w1 h1 => x_mv rfl) ?_
 refine w_index EI rfl (hC.le S.le) rfl rfl Tryz.runUnderlying24 Tryz.sizeOf3 (by omega) hy ?_
 intro b5 o6 hat7 row8
 refine w_x rfl (fun w1 h1 => x_load rfl (ld_cell Tryz.isAgg3 ((row8.le h1) 0 _ rfl))) ?_
 refine w_nil ?_
 intro w9 hl10
 have S11 := S.step hl10
 refine l_call [] [] [_, _] rfl rfl Tryz.call96 rfl (c_Whole1 _ _ _) ?_
 rintro _ w12 ⟨rfl, hl14⟩
 have S13 := S11.step hl14
 refine l_a rfl ?_
 refine l_nil ?_
 refine r_ret (rs := [.tmp 6]) [_] Tryz.func141 rfl ⟨rfl, trivial⟩ ?_
 exact ⟨rfl, S13.le⟩

set_option maxHeartbeats 2000000 in
theorem c_shsorted (cuts : List Int) (vc : Value) (hn : 1 ≤ cuts.length ∧ cuts.length ≤ 19) (w : World) (hC : Rd EI w vc cuts) :
  Cl Tryz.prog 95 #[vc, .func (.func 96) #[] #[]] w fun v w' => ∃ L, L.Perm (idxs cuts.length) ∧ L.Pairwise (Fst fun x => cuts.getD x.toNat 0) ∧ New w w' (vec EI v L) ∧ Le w w' := by
 refine fn_of_run (args := [_, _]) 21 Tryz.func95 rfl rfl rfl fun cs => ?_
 have S := Own.start (X := nob) w
 refine r_seq ?_
 refine r_region ?_
 refine l_box S rfl (Rd.cells (hC.le S.le)) ?_
 intro b4 w1 S2 hl3
 refine l_box S2 rfl rfl ?_
 intro b8 w5 S6 hl7
 refine l_a rfl ?_
 refine l_nil ?_
 refine r_seq ?_
 refine r_region ?_
 refine l_a rfl ?_
 have S9 := S6.nilvec (E := EI)
 refine l_nil ?_
 refine r_seq ?_
 refine r_seq ?_
 refine r_region ?_
 refine l_x rfl (x_load rfl (ld_blk (S9.blk 0 rfl) Tryz.isAgg24 rfl)) ?_
 refine l_x rfl (x_len (hC.le S9.le) rfl Tryz.runUnderlying24) ?_
 refine l_m rfl ?_
 refine l_nil ?_
 refine r_block ?_
 refine r_loop (G := Nat × Value) (fun ⟨i, vo⟩ => cuts.length - i) (fun ⟨i, vo⟩ => [(2, .pointer (some ⟨b4, 0, none⟩)), (3, .pointer (some ⟨b8, 0, none⟩)), (5, vo), (8, .int .i64 cuts.length), (9, .int .i64 i)]) (fun ⟨i, vo⟩ w' => (i ≤ cuts.length) ∧ Own nob w w' [blk b4 [vc] 24, blk b8 [.func (.func 96) #[] #[]] 116, vec EI vo (idxs i)]) (0, .slice none 0 0) ⟨rfl, rfl, rfl, rfl, rfl, trivial⟩ ⟨Nat.zero_le _, (S9.take 3)⟩ ?_
 rintro ⟨i, vo⟩ ρ w1 ⟨hi, S1⟩ IH
 refine r_seq ?_
 refine r_region ?_
 refine l_x rfl (x_lss rfl rfl) ?_
 refine l_nil ?_
 refine r_seq ?_
 refine r_ifd rfl (fun hc10 => ?_) (fun hc10 => ?_)
 ·skip
  refine r_skip ?_
  refine r_seq ?_
  refine r_block ?_
  refine r_seq ?_
  refine r_region ?_
  refine l_m rfl ?_
  refine l_a rfl ?_
  refine l_nil ?_
  refine r_region ?_
  refine l_m rfl ?_
  refine l_m rfl ?_
  refine l_buildSlice EI [(i : Int)] S1 rfl Tryz.runUnderlying24 Tryz.sizeOf3 Tryz.zeroValue3 rfl ⟨rfl, rfl, trivial⟩ (Nat.le_of_ble_eq_true rfl) ?_
  intro v13 w10 S11 hl12
  refine l_append EI S11 2 rfl rfl rfl rfl (vec_rd (S11.at 3 rfl)) Tryz.underlying24 info3 rfl rfl rfl (by unfold maxLen; rw [idxs_len, List.length_singleton]; omega) (by rw [idxs_len, List.length_singleton]; show _ * 8 ≤ _; omega) ?_
  intro v17 w14 S15 hk16 hv18
  refine l_a rfl ?_
  refine l_nil ?_
  refine r_inBlock ?_
  refine r_region ?_
  refine l_x rfl (x_add rfl rfl (by omega)) ?_
  refine l_m rfl ?_
  refine l_nil ?_
  exact IH (i + 1, v17) _ _ (by dsimp only; omega) ⟨rfl, rfl, rfl, rfl, rfl, trivial⟩ ⟨by omega, (by rw [idxs_snoc]; exact S15.take 3)⟩
 obtain rfl : i = cuts.length := by omega
 refine r_exit rfl ?_
 refine r_seq ?_
 refine r_region ?_
 refine l_m rfl ?_
 refine l_x rfl (x_func rfl rfl) ?_
 refine l_call [] [] [_, _] rfl rfl Tryz.call140 rfl (c_SortStable _ cuts.length (fun x => cuts.getD x.toNat 0) 141 [.pointer (some ⟨b8, 0, none⟩), .pointer (some ⟨b4, 0, none⟩)] hn _ Tryz.call141 (fun x y hx hy w1 h1 => by
 obtain ⟨x', hx'⟩ : ∃ x', cuts[x.toNat]? = some x' := ⟨_, List.getElem?_eq_getElem (by omega)⟩
 obtain ⟨y', hy'⟩ : ∃ y', cuts[y.toNat]? = some y' := ⟨_, List.getElem?_eq_getElem (by omega)⟩
 have Su := S1.under 2 rfl h1
 have h9 := c_sorted1 cuts vc _ _ x y x' y' hx.1 hy.1 hx' hy' w1 (Su.blk 1 rfl) (Su.blk 0 rfl) (hC.le Su.le)
 simp only [List.getD_eq_getElem?_getD, hx', hy', Option.getD_some]
 exact h9) (S1.lend 2 rfl)) ?_
 rintro _ w19 ⟨L, hp, hs, h20⟩
 have S21 := S1.back 2 rfl h20
 refine l_nil ?_
 refine r_seq ?_
 refine r_region ?_
 refine l_m rfl ?_
 refine l_a rfl ?_
 refine l_nil ?_
 refine r_ret (rs := [.tmp 4]) [_] Tryz.func95 rfl ⟨rfl, trivial⟩ ?_
 exact ⟨L, hp, hs, S21.new 2 rfl, S21.le⟩

set_option maxHeartbeats 1000000 in
theorem c_parted (l : List Int) (vl : Value) (fine : Bool) (w : World) (hL : Rd EI w vl l) :
  Cl Tryz.prog 94 #[vl, .bool fine] w fun v w' => v = .tuple #[.int .i64 (if prtE l fine = 0 then sumI l else 0), .int .i64 (prtE l fine)] ∧ Le w w' := by
 refine fn_of_run (args := [_, _]) 32 Tryz.func94 rfl rfl rfl fun cs => ?_
 have S := Own.start (X := nob) w
 refine r_seq ?_
 refine r_region ?_
 refine l_a rfl ?_
 refine l_a rfl ?_
 refine l_nil ?_
 refine r_seq ?_
 refine r_seq ?_
 refine r_region ?_
 refine l_m rfl ?_
 refine l_x rfl (x_len (hL.le S.le) rfl Tryz.runUnderlying24) ?_
 refine l_x rfl (x_gtr rfl rfl) ?_
 refine l_nil ?_
 refine r_ifd rfl (fun hc11 => ?_) (fun hc11 => ?_)
 ·skip
  refine r_seq ?_
  refine r_region ?_
  refine l_a rfl ?_
  refine l_a rfl ?_
  refine l_nil ?_
  refine r_ret (rs := [.tmp 4, .tmp 5]) [_, _] Tryz.func94 rfl ⟨rfl, rfl, trivial⟩ ?_
  exact ⟨by rw [prt_len (by omega)]; rfl, S.le⟩
 refine r_skip ?_
 refine r_seq ?_
 refine r_region ?_
 refine l_a rfl ?_
 refine l_nil ?_
 refine r_seq ?_
 refine r_seq ?_
 refine r_region ?_
 refine l_m rfl ?_
 refine l_x rfl (x_len (hL.le S.le) rfl Tryz.runUnderlying24) ?_
 refine l_m rfl ?_
 refine l_nil ?_
 refine r_block ?_
 refine r_loop (G := Nat) (fun i => l.length - i) (fun i => [(1, .bool fine), (6, .int .i64 (sumI (l.take i))), (12, vl), (13, .int .i64 l.length), (14, .int .i64 i)]) (fun i w' => (i ≤ l.length) ∧ (∀ x ∈ l.take i, rng x 0 1000 = true) ∧ Own nob w w' []) 0 ⟨rfl, rfl, rfl, rfl, rfl, trivial⟩ ⟨Nat.zero_le _, by simp, S⟩ ?_
 rintro i ρ w1 ⟨hi, hok, S1⟩ IH
 have hbd := sumI_bd_take hok
 refine r_seq ?_
 refine r_region ?_
 refine l_x rfl (x_lss rfl rfl) ?_
 refine l_nil ?_
 refine r_seq ?_
 refine r_ifd rfl (fun hc15 => ?_) (fun hc15 => ?_)
 ·skip
  obtain ⟨a, ha⟩ : ∃ a, l[i]? = some a := ⟨_, List.getElem?_eq_getElem (by omega)⟩
  refine r_skip ?_
  refine r_seq ?_
  refine r_block ?_
  refine r_seq ?_
  refine r_region ?_
  refine l_index EI rfl (hL.le S1.le) rfl rfl Tryz.runUnderlying24 Tryz.sizeOf3 (by omega) (by first | assumption | exact List.getElem?_eq_getElem (by omega)) ?_
  intro b1 o2 hat3 row4
  refine l_x rfl (x_load rfl (ld_cell Tryz.isAgg3 (row4 0 _ rfl))) ?_
  refine l_a rfl ?_
  refine l_nil ?_
  refine r_seq ?_
  refine r_seq ?_
  refine r_region ?_
  refine l_m rfl ?_
  refine l_call [] [] [_, _, _] rfl rfl Tryz.call90 rfl (c_within _ _ _ _) ?_
  rintro _ w5 ⟨rfl, hl7⟩
  have S6 := S1.step hl7
  refine l_x rfl (x_not rfl) ?_
  refine l_nil ?_
  refine r_if rfl (fun hc20 => ?_) (fun hc20 => ?_)
  ·skip
   refine r_seq ?_
   refine r_region ?_
   refine l_a rfl ?_
   refine l_a rfl ?_
   refine l_nil ?_
   refine r_ret (rs := [.tmp 4, .tmp 5]) [_, _] Tryz.func94 rfl ⟨rfl, rfl, trivial⟩ ?_
   exact ⟨by rw [prt_bad (by omega) ha (by simpa using hc20)]; rfl, S6.le⟩
  have hab := rng_iff.1 (show rng a 0 1000 = true by simpa using hc20)
  refine r_skip ?_
  refine r_region ?_
  refine l_m rfl ?_
  refine l_m rfl ?_
  refine l_x rfl (x_add rfl rfl (by omega)) ?_
  refine l_a rfl ?_
  refine l_nil ?_
  refine r_inBlock ?_
  refine r_region ?_
  refine l_x rfl (x_add rfl rfl (by omega)) ?_
  refine l_m rfl ?_
  refine l_nil ?_
  exact IH (i + 1) _ _ (by omega) ⟨rfl, (congrArg (Value.int .i64) (sumI_take ha).symm), rfl, rfl, rfl, trivial⟩ ⟨by omega, all_step2 hok ha (by simpa using hc20), S6⟩
 obtain rfl : i = l.length := by omega
 rw [List.take_length] at *
 refine r_exit rfl ?_
 refine r_seq ?_
 refine r_block ?_
 refine r_seq ?_
 refine r_region ?_
 refine l_m rfl ?_
 refine l_x rfl (x_not rfl) ?_
 refine l_a rfl ?_
 refine l_nil ?_
 refine r_if rfl (fun hc25 => ?_) (fun hc25 => ?_)
 ·skip
  refine r_seq ?_
  refine r_region ?_
  refine l_a rfl ?_
  refine l_a rfl ?_
  refine l_nil ?_
  refine r_ret (rs := [.tmp 4, .tmp 5]) [_, _] Tryz.func94 rfl ⟨rfl, rfl, trivial⟩ ?_
  have he : prtE l fine = 1 := by rw [prt_go (by omega) hok, if_pos (by simpa using hc25)]
  exact ⟨by rw [he]; rfl, S1.le⟩
 refine r_seq ?_
 refine r_region ?_
 refine l_m rfl ?_
 refine l_x rfl (x_eql rfl rfl) ?_
 refine l_a rfl ?_
 refine l_nil ?_
 refine r_ifd rfl (fun hc28 => ?_) (fun hc28 => ?_)
 ·skip
  refine r_seq ?_
  refine r_region ?_
  refine l_a rfl ?_
  refine l_a rfl ?_
  refine l_nil ?_
  refine r_ret (rs := [.tmp 4, .tmp 5]) [_, _] Tryz.func94 rfl ⟨rfl, rfl, trivial⟩ ?_
  have he : prtE l fine = 11 := by rw [prt_go (by omega) hok, if_neg (by simp_all), if_pos hc28]
  exact ⟨by rw [he]; rfl, S1.le⟩
 refine r_skip ?_
 refine r_inBlock ?_
 refine r_seq ?_
 refine r_region ?_
 refine l_m rfl ?_
 refine l_a rfl ?_
 refine l_a rfl ?_
 refine l_nil ?_
 refine r_ret (rs := [.tmp 4, .tmp 5]) [_, _] Tryz.func94 rfl ⟨rfl, rfl, trivial⟩ ?_
 have he : prtE l fine = 0 := by rw [prt_go (by omega) hok, if_neg (by simp_all), if_neg hc28]
 exact ⟨by rw [he]; rfl, S1.le⟩

set_option maxHeartbeats 4000000 in
theorem c_Whole (t : Int) (l : List Int) (vl : Value) (hn : l.length ≤ 19) (w : World) (hL : Rd EI w vl l) :
  Cl Tryz.prog 38 #[.int .i64 t, vl] w fun v w' => ∃ s r e, v = .tuple #[s, .int .i64 e] ∧ e = prtE l (rng t 0 1000000000) ∧ (e = 0 → r = wholeS t l) ∧ New w w' (vec EI s r) ∧ Le w w' := by
 refine fn_of_run (args := [_, _]) 79 Tryz.func38 rfl rfl rfl fun cs => ?_
 have S := Own.start (X := nob) w
 refine r_seq ?_
 refine r_region ?_
 refine l_a rfl ?_
 refine l_a rfl ?_
 refine l_nil ?_
 refine r_seq ?_
 refine r_region ?_
 refine l_m rfl ?_
 refine l_m rfl ?_
 refine l_call [] [] [_, _, _] rfl rfl Tryz.call90 rfl (c_within _ _ _ _) ?_
 rintro _ w1 ⟨rfl, hl3⟩
 have S2 := S.step hl3
 refine l_call [] [] [_, _] rfl rfl Tryz.call94 rfl (c_parted l _ _ _ (hL.le S2.le)) ?_
 rintro _ w4 ⟨rfl, hl6⟩
 have S5 := S2.step hl6
 refine l_m rfl ?_
 refine l_x rfl (x_extract rfl rfl) ?_
 refine l_x rfl (x_extract rfl rfl) ?_
 refine l_a rfl ?_
 refine l_a rfl ?_
 refine l_nil ?_
 refine r_seq ?_
 refine r_seq ?_
 refine r_region ?_
 refine l_m rfl ?_
 refine l_x rfl (x_neq rfl rfl) ?_
 refine l_nil ?_
 refine r_ifd rfl (fun hc23 => ?_) (fun hc23 => ?_)
 ·skip
  refine r_seq ?_
  refine r_region ?_
  refine l_m rfl ?_
  refine l_a rfl ?_
  refine l_a rfl ?_
  refine l_nil ?_
  refine r_ret (rs := [.tmp 4, .tmp 5]) [_, _] Tryz.func38 rfl ⟨rfl, rfl, trivial⟩ ?_
  exact ⟨_, [], _, rfl, rfl, fun h => absurd h hc23, New.nilvec .., S5.le⟩
 have h0 : prtE l (rng t 0 1000000000) = 0 := Decidable.not_not.1 hc23
 obtain ⟨hl40, hl0, hft, hsp, hsb⟩ := prt_ok h0
 have htb := rng_iff.1 hft
 have hbl : (baseS t l).length = l.length := by simp [baseS]
 have hcl : (cutS t l).length = l.length := by simp [cutS]
 have hlf := left_bd (total := t) (fun x hx => (hl0 x hx).1) hsp
 refine r_skip ?_
 refine r_seq ?_
 refine r_drawE 8 nob Tryz.mixed (by kernel_rfl) ?_
 intro w7 hl8
 have S9 := S5.step hl8
 refine e_exact 0 _ (by kernel_rfl) rfl rfl (by kernel_rfl) rfl (ex_x rfl (fun w1 h1 => x_mv rfl)) ?_
 refine e_exact 1 _ (by kernel_rfl) rfl rfl (by kernel_rfl) rfl (ex_x rfl (fun w1 h1 => x_len (hL.le (S9.step h1).le) rfl Tryz.runUnderlying24)) ?_
 refine e_exact 3 _ (by kernel_rfl) rfl rfl (by kernel_rfl) rfl (ex_x rfl (fun w1 h1 => x_mv rfl)) ?_
 refine e_exact 4 _ (by kernel_rfl) rfl rfl (by kernel_rfl) rfl (ex_x rfl (fun w1 h1 => x_len (hL.le (S9.step h1).le) rfl Tryz.runUnderlying24)) ?_
 refine e_next [2, 5] (by kernel_rfl) (by kernel_rfl) ⟨⟨_, _, rfl, rfl, ?_⟩, ⟨_, _, rfl, rfl, ?_⟩, trivial⟩
 ·skip
  refine s_make EI 0 S9 rfl Tryz.runUnderlying24 Tryz.sizeOf3 Tryz.typeInfo3 Tryz.zeroValue3 rfl rfl rfl rfl (Nat.le_refl _) (by unfold maxLen; omega) (by show _ * 8 ≤ _; omega) ?_
  intro v13 w10 hv14 S11 hl12
  refine ⟨.of_le hl12, ?_⟩
  refine e_exact 6 _ (by kernel_rfl) rfl rfl (by kernel_rfl) rfl (ex_x rfl (fun w1 h1 => x_as rfl)) ?_
  refine e_next [5] (by kernel_rfl) (by kernel_rfl) ⟨⟨_, _, rfl, rfl, ?_⟩, trivial⟩
  refine s_make EI 0 S11 rfl Tryz.runUnderlying24 Tryz.sizeOf3 Tryz.typeInfo3 Tryz.zeroValue3 rfl rfl rfl rfl (Nat.le_refl _) (by unfold maxLen; omega) (by show _ * 8 ≤ _; omega) ?_
  intro v18 w15 hv19 S16 hl17
  refine ⟨.of_le hl17, ?_⟩
  refine e_exact 7 _ (by kernel_rfl) rfl rfl (by kernel_rfl) rfl (ex_x rfl (fun w1 h1 => x_as rfl)) ?_
  refine e_done (by kernel_rfl) ?_
  refine l_nil ?_
  refine r_seq ?_
  refine r_region ?_
  refine l_m rfl ?_
  refine l_a rfl ?_
  refine l_nil ?_
  refine r_seq ?_
  refine r_seq ?_
  refine r_region ?_
  refine l_m rfl ?_
  refine l_x rfl (x_len (hL.le S16.le) rfl Tryz.runUnderlying24) ?_
  refine l_m rfl ?_
  refine l_nil ?_
  refine r_block ?_
  refine r_loop (G := Nat) (fun i => l.length - i) (fun i => [(0, .int .i64 t), (6, .int .i64 (sumI l)), (8, v13), (9, v18), (10, .int .i64 (t - sumI ((baseS t l).take i))), (32, vl), (33, .int .i64 l.length), (34, .int .i64 i)]) (fun i w' => (i ≤ l.length) ∧ Own nob w w' [vec EI v13 (pre (baseS t l) 0 i), vec EI v18 (pre (cutS t l) 0 i)]) 0 ⟨rfl, (congrArg (Value.int .i64) (if_pos h0)), rfl, rfl, (congrArg (Value.int .i64) (by rw [List.take_zero, sumI_nil, Int.sub_zero])), rfl, rfl, rfl, trivial⟩ ⟨Nat.zero_le _, (by rw [pre_zero, pre_zero, hbl, hcl]; exact S16.pick [0, 1] (by decide) rfl)⟩ ?_
  rintro i ρ w1 ⟨hi, S1⟩ IH
  refine r_seq ?_
  refine r_region ?_
  refine l_x rfl (x_lss rfl rfl) ?_
  refine l_nil ?_
  refine r_seq ?_
  refine r_ifd rfl (fun hc35 => ?_) (fun hc35 => ?_)
  ·skip
   obtain ⟨a, ha⟩ : ∃ a, l[i]? = some a := ⟨_, List.getElem?_eq_getElem (by omega)⟩
   have hab := hl0 a (List.mem_of_getElem? ha)
   have hba : (baseS t l)[i]? = some (t * a / sumI l) := by simp [baseS, ha]
   have hca : (cutS t l)[i]? = some (t * a % sumI l) := by simp [cutS, ha]
   have hm0 := mul_bd htb hab
   have hdv := div_bd (s := sumI l) hm0 hsp
   have hlb := base_bd htb hl0 hsp i
   refine r_skip ?_
   refine r_seq ?_
   refine r_block ?_
   refine r_seq ?_
   refine r_region ?_
   refine l_m rfl ?_
   refine l_index EI rfl (hL.le S1.le) rfl rfl Tryz.runUnderlying24 Tryz.sizeOf3 (by omega) ha ?_
   intro b20 o21 hat22 row23
   refine l_x rfl (x_load rfl (ld_cell Tryz.isAgg3 (row23 0 _ rfl))) ?_
   refine l_a rfl ?_
   refine l_a rfl ?_
   refine l_nil ?_
   refine r_seq ?_
   refine r_drawE 16 (Rsc.fp (vec EI v13 (pre (baseS t l) 0 i))) Tryz.mixed (by kernel_rfl) ?_
   intro w24 hl25
   have S26 := S1.step hl25
   refine e_exact 0 _ (by kernel_rfl) rfl rfl (by kernel_rfl) rfl (ex_x rfl (fun w1 h1 => x_mv rfl)) ?_
   refine e_exact 1 _ (by kernel_rfl) rfl rfl (by kernel_rfl) rfl (ex_x rfl (fun w1 h1 => x_mv rfl)) ?_
   refine e_exact 2 _ (by kernel_rfl) rfl rfl (by kernel_rfl) rfl (ex_x rfl (fun w1 h1 => x_mv rfl)) ?_
   refine e_exact 3 _ (by kernel_rfl) rfl rfl (by kernel_rfl) rfl (ex_x rfl (fun w1 h1 => x_mv rfl)) ?_
   refine e_exact 4 _ (by kernel_rfl) rfl rfl (by kernel_rfl) rfl (ex_x rfl (fun w1 h1 => x_mv rfl)) ?_
   refine e_exact 5 _ (by kernel_rfl) rfl rfl (by kernel_rfl) rfl (ex_x rfl (fun w1 h1 => x_mv rfl)) ?_
   refine e_exact 6 _ (by kernel_rfl) rfl rfl (by kernel_rfl) rfl (ex_x rfl (fun w1 h1 => x_mul rfl rfl (by omega))) ?_
   refine e_exact 7 _ (by kernel_rfl) rfl rfl (by kernel_rfl) rfl (ex_x rfl (fun w1 h1 => x_mv rfl)) ?_
   refine e_exact 8 _ (by kernel_rfl) rfl rfl (by kernel_rfl) rfl (ex_x rfl (fun w1 h1 => x_quo rfl rfl ⟨hm0.1, hsp, by omega⟩)) ?_
   refine e_exact 9 _ (by kernel_rfl) rfl rfl (by kernel_rfl) rfl (ex_x rfl (fun w1 h1 => x_mv rfl)) ?_
   refine e_exact 10 _ (by kernel_rfl) rfl rfl (by kernel_rfl) rfl (ex_x rfl (fun w1 h1 => x_mv rfl)) ?_
   refine e_exact 11 _ (by kernel_rfl) rfl rfl (by kernel_rfl) rfl (ex_x rfl (fun w1 h1 => x_mul rfl rfl (by omega))) ?_
   refine e_exact 12 _ (by kernel_rfl) rfl rfl (by kernel_rfl) rfl (ex_x rfl (fun w1 h1 => x_mv rfl)) ?_
   refine e_exact 13 _ (by kernel_rfl) rfl rfl (by kernel_rfl) rfl (ex_x rfl (fun w1 h1 => x_rem rfl rfl ⟨hm0.1, hsp⟩)) ?_
   refine e_index EI 14 (by kernel_rfl) rfl rfl (by kernel_rfl) rfl rfl (vec_rd (S26.at 0 rfl)) rfl rfl Tryz.runUnderlying24 Tryz.sizeOf3 (by omega) (pre_get (by rw [hbl]; omega)) ?_
   intro b27 o28 hat29
   refine e_next [15] (by kernel_rfl) (by kernel_rfl) ⟨⟨_, _, rfl, rfl, ?_⟩, trivial⟩
   refine s_storevi (f := 0) S26 0 rfl rfl hat29 rfl rfl Tryz.sizeOf3 (pre_get (by rw [hbl]; omega)) (by decide) rfl ?_
   intro w30 S31 hk32
   refine ⟨hk32, ?_⟩
   refine e_done (by kernel_rfl) ?_
   refine l_index EI rfl (vec_rd (S31.at 1 rfl)) rfl rfl Tryz.runUnderlying24 Tryz.sizeOf3 (by omega) (pre_get (by rw [hcl]; omega)) ?_
   intro b33 o34 hat35 row36
   refine l_storevi (f := 0) S31 1 rfl rfl hat35 rfl rfl Tryz.sizeOf3 (pre_get (by rw [hcl]; omega)) (by decide) rfl ?_
   intro w37 S38 hk39
   refine l_nil ?_
   refine r_region ?_
   refine l_m rfl ?_
   refine l_m rfl ?_
   refine l_m rfl ?_
   refine l_index EI rfl (vec_rd (S38.at 0 rfl)) rfl rfl Tryz.runUnderlying24 Tryz.sizeOf3 (by omega) (by rw [Int.toNat_natCast, pre_step hba]; exact pre_last hba) ?_
   intro b40 o41 hat42 row43
   refine l_x rfl (x_load rfl (ld_cell Tryz.isAgg3 (row43 0 _ rfl))) ?_
   refine l_x rfl (x_sub rfl rfl (by omega)) ?_
   refine l_a rfl ?_
   refine l_nil ?_
   refine r_inBlock ?_
   refine r_region ?_
   refine l_x rfl (x_add rfl rfl (by omega)) ?_
   refine l_m rfl ?_
   refine l_nil ?_
   exact IH (i + 1) _ _ (by omega) ⟨rfl, rfl, rfl, rfl, (congrArg (Value.int .i64) (by rw [sumI_take hba]; omega)), rfl, rfl, rfl, trivial⟩ ⟨by omega, (by rw [← pre_step hba, ← pre_step hca]; exact S38.take 2)⟩
  obtain rfl : i = l.length := by omega
  refine r_exit rfl ?_
  refine r_seq ?_
  refine r_seq ?_
  rw [show l.length = (baseS t l).length from hbl.symm, pre_full, hbl, show l.length = (cutS t l).length from hcl.symm, pre_full] at S1
  refine r_slot 10 (.int .i64 (t - sumI (baseS t l))) (congrArg (Value.int .i64) (by rw [← hbl, List.take_length])) ?_
  refine r_region ?_
  refine l_m rfl ?_
  refine l_call [] [] [_, _] rfl rfl Tryz.call95 rfl (c_shsorted _ _ ⟨by rw [hcl]; omega, by rw [hcl]; omega⟩ _ (vec_rd (S1.at 1 rfl))) ?_
  rintro v6344 w44 ⟨L6344, hp6344, hs6344, hN6344, hl6344⟩
  have S45 := S1.add hl6344 hN6344
  have hLl6344 := hp6344.length_eq
  rw [idxs_len] at hLl6344
  refine l_m rfl ?_
  refine l_prefix S45 2 rfl rfl rfl rfl Tryz.runUnderlying24 Tryz.sizeOf3 (by rw [hLl6344, hcl]; omega) ?_
  intro v46 S47
  refine l_x rfl (x_len (vec_rd (S47.at 2 rfl)) rfl Tryz.runUnderlying24) ?_
  refine l_m rfl ?_
  refine l_nil ?_
  refine r_block ?_
  refine r_loop (G := Nat) (fun i => (L6344.take (t - sumI (baseS t l)).toNat).length - i) (fun i => [(8, v13), (65, v46), (66, .int .i64 (L6344.take (t - sumI (baseS t l)).toNat).length), (67, .int .i64 i)]) (fun i w' => (i ≤ (L6344.take (t - sumI (baseS t l)).toNat).length) ∧ Own nob w w' [vec EI v13 (bumps (baseS t l) ((L6344.take (t - sumI (baseS t l)).toNat).take i)), vec EI v46 (L6344.take (t - sumI (baseS t l)).toNat)]) 0 ⟨rfl, rfl, rfl, rfl, trivial⟩ ⟨Nat.zero_le _, (S47.pick [0, 2] (by decide) rfl)⟩ ?_
  rintro i ρ w1b ⟨hi2, S1b⟩ IHb
  refine r_seq ?_
  refine r_region ?_
  refine l_x rfl (x_lss rfl rfl) ?_
  refine l_nil ?_
  refine r_seq ?_
  refine r_ifd rfl (fun hc68 => ?_) (fun hc68 => ?_)
  ·skip
   obtain ⟨x, hx⟩ : ∃ x, (L6344.take (t - sumI (baseS t l)).toNat)[i]? = some x := ⟨_, List.getElem?_eq_getElem (by omega)⟩
   have hxm := mem_idxs.1 (hp6344.mem_iff.1 (List.mem_of_mem_take (List.mem_of_getElem? hx)))
   rw [hcl] at hxm
   have hzg := bump_get (o := baseS t l) (M := (L6344.take (t - sumI (baseS t l)).toNat).take i) (i := x.toNat) (by rw [hbl]; omega)
   have hzb := bump_bd htb hl0 hsp hp6344 hs6344 hcl (k := (t - sumI (baseS t l)).toNat) (i := i) x.toNat
   have hml9 : (L6344.take (t - sumI (baseS t l)).toNat).length ≤ L6344.length := by rw [List.length_take]; exact Nat.min_le_right _ _
   refine r_skip ?_
   refine r_seq ?_
   refine r_block ?_
   refine r_seq ?_
   refine r_region ?_
   refine l_index EI rfl (vec_rd (S1b.at 1 rfl)) rfl rfl Tryz.runUnderlying24 Tryz.sizeOf3 (by omega) hx ?_
   intro b48 o49 hat50 row51
   refine l_x rfl (x_load rfl (ld_cell Tryz.isAgg3 (row51 0 _ rfl))) ?_
   refine l_a rfl ?_
   refine l_nil ?_
   refine r_region ?_
   refine l_m rfl ?_
   refine l_m rfl ?_
   refine l_index EI rfl (vec_rd (S1b.at 0 rfl)) rfl rfl Tryz.runUnderlying24 Tryz.sizeOf3 (by omega) hzg ?_
   intro b52 o53 hat54 row55
   refine l_x rfl (x_load rfl (ld_cell Tryz.isAgg3 (row55 0 _ rfl))) ?_
   refine l_x rfl (x_add rfl rfl (by omega)) ?_
   refine l_index EI rfl (vec_rd (S1b.at 0 rfl)) rfl rfl Tryz.runUnderlying24 Tryz.sizeOf3 (by omega) hzg ?_
   intro b56 o57 hat58 row59
   refine l_storevi (f := 0) S1b 0 rfl rfl hat58 rfl rfl Tryz.sizeOf3 hzg (by decide) rfl ?_
   intro w60 S61 hk62
   refine l_nil ?_
   refine r_inBlock ?_
   refine r_region ?_
   refine l_x rfl (x_add rfl rfl (by omega)) ?_
   refine l_m rfl ?_
   refine l_nil ?_
   exact IHb (i + 1) _ _ (by omega) ⟨rfl, rfl, rfl, rfl, trivial⟩ ⟨by omega, (by rw [List.take_add_one, hx, show (some x).toList = [x] from rfl, bumps_snoc]; exact S61.take 2)⟩
  obtain rfl : i = (L6344.take (t - sumI (baseS t l)).toNat).length := by omega
  rw [List.take_length] at S1b
  refine r_exit rfl ?_
  refine r_seq ?_
  refine r_region ?_
  refine l_m rfl ?_
  refine l_a rfl ?_
  refine l_a rfl ?_
  refine l_nil ?_
  refine r_ret (rs := [.tmp 4, .tmp 5]) [_, _] Tryz.func38 rfl ⟨rfl, rfl, trivial⟩ ?_
  exact ⟨_, _, _, congrArg (fun q => Value.tuple #[_, .int .i64 q]) h0.symm, rfl, fun _ => whole_of (c := fun x => (cutS t l).getD x.toNat 0) (fun j => rfl) (by rw [← hcl]; exact hp6344) hs6344 hlf.1, S1b.new 0 rfl, S1b.le⟩
 refine s_make EI 0 S9 rfl Tryz.runUnderlying24 Tryz.sizeOf3 Tryz.typeInfo3 Tryz.zeroValue3 rfl rfl rfl rfl (Nat.le_refl _) (by unfold maxLen; omega) (by show _ * 8 ≤ _; omega) ?_
 intro v66 w63 hv67 S64 hl65
 refine ⟨.of_le hl65, ?_⟩
 refine e_next [2] (by kernel_rfl) (by kernel_rfl) ⟨⟨_, _, rfl, rfl, ?_⟩, trivial⟩
 refine s_make EI 0 S64 rfl Tryz.runUnderlying24 Tryz.sizeOf3 Tryz.typeInfo3 Tryz.zeroValue3 rfl rfl rfl rfl (Nat.le_refl _) (by unfold maxLen; omega) (by show _ * 8 ≤ _; omega) ?_
 intro v71 w68 hv72 S69 hl70
 refine ⟨.of_le hl70, ?_⟩
 refine e_exact 6 _ (by kernel_rfl) rfl rfl (by kernel_rfl) rfl (ex_x rfl (fun w1 h1 => x_as rfl)) ?_
 refine e_exact 7 _ (by kernel_rfl) rfl rfl (by kernel_rfl) rfl (ex_x rfl (fun w1 h1 => x_as rfl)) ?_
 refine e_done (by kernel_rfl) ?_
 refine l_nil ?_
 refine r_seq ?_
 refine r_region ?_
 refine l_m rfl ?_
 refine l_a rfl ?_
 refine l_nil ?_
 refine r_seq ?_
 refine r_seq ?_
 refine r_region ?_
 refine l_m rfl ?_
 refine l_x rfl (x_len (hL.le S69.le) rfl Tryz.runUnderlying24) ?_
 refine l_m rfl ?_
 refine l_nil ?_
 refine r_block ?_
 refine r_loop (G := Nat) (fun i => l.length - i) (fun i => [(0, .int .i64 t), (6, .int .i64 (sumI l)), (8, v71), (9, v66), (10, .int .i64 (t - sumI ((baseS t l).take i))), (32, vl), (33, .int .i64 l.length), (34, .int .i64 i)]) (fun i w' => (i ≤ l.length) ∧ Own nob w w' [vec EI v71 (pre (baseS t l) 0 i), vec EI v66 (pre (cutS t l) 0 i)]) 0 ⟨rfl, (congrArg (Value.int .i64) (if_pos h0)), rfl, rfl, (congrArg (Value.int .i64) (by rw [List.take_zero, sumI_nil, Int.sub_zero])), rfl, rfl, rfl, trivial⟩ ⟨Nat.zero_le _, (by rw [pre_zero, pre_zero, hbl, hcl]; exact S69.pick [1, 0] (by decide) rfl)⟩ ?_
 rintro i ρ w1 ⟨hi, S1⟩ IH
 refine r_seq ?_
 refine r_region ?_
 refine l_x rfl (x_lss rfl rfl) ?_
 refine l_nil ?_
 refine r_seq ?_
 refine r_ifd rfl (fun hc35 => ?_) (fun hc35 => ?_)
 ·skip
  obtain ⟨a, ha⟩ : ∃ a, l[i]? = some a := ⟨_, List.getElem?_eq_getElem (by omega)⟩
  have hab := hl0 a (List.mem_of_getElem? ha)
  have hba : (baseS t l)[i]? = some (t * a / sumI l) := by simp [baseS, ha]
  have hca : (cutS t l)[i]? = some (t * a % sumI l) := by simp [cutS, ha]
  have hm0 := mul_bd htb hab
  have hdv := div_bd (s := sumI l) hm0 hsp
  have hlb := base_bd htb hl0 hsp i
  refine r_skip ?_
  refine r_seq ?_
  refine r_block ?_
  refine r_seq ?_
  refine r_region ?_
  refine l_m rfl ?_
  refine l_index EI rfl (hL.le S1.le) rfl rfl Tryz.runUnderlying24 Tryz.sizeOf3 (by omega) ha ?_
  intro b73 o74 hat75 row76
  refine l_x rfl (x_load rfl (ld_cell Tryz.isAgg3 (row76 0 _ rfl))) ?_
  refine l_a rfl ?_
  refine l_a rfl ?_
  refine l_nil ?_
  refine r_seq ?_
  refine r_drawE 16 (Rsc.fp (vec EI v71 (pre (baseS t l) 0 i))) Tryz.mixed (by kernel_rfl) ?_
  intro w77 hl78
  have S79 := S1.step hl78
  refine e_exact 0 _ (by kernel_rfl) rfl rfl (by kernel_rfl) rfl (ex_x rfl (fun w1 h1 => x_mv rfl)) ?_
  refine e_exact 1 _ (by kernel_rfl) rfl rfl (by kernel_rfl) rfl (ex_x rfl (fun w1 h1 => x_mv rfl)) ?_
  refine e_exact 2 _ (by kernel_rfl) rfl rfl (by kernel_rfl) rfl (ex_x rfl (fun w1 h1 => x_mv rfl)) ?_
  refine e_exact 3 _ (by kernel_rfl) rfl rfl (by kernel_rfl) rfl (ex_x rfl (fun w1 h1 => x_mv rfl)) ?_
  refine e_exact 4 _ (by kernel_rfl) rfl rfl (by kernel_rfl) rfl (ex_x rfl (fun w1 h1 => x_mv rfl)) ?_
  refine e_exact 5 _ (by kernel_rfl) rfl rfl (by kernel_rfl) rfl (ex_x rfl (fun w1 h1 => x_mv rfl)) ?_
  refine e_exact 6 _ (by kernel_rfl) rfl rfl (by kernel_rfl) rfl (ex_x rfl (fun w1 h1 => x_mul rfl rfl (by omega))) ?_
  refine e_exact 7 _ (by kernel_rfl) rfl rfl (by kernel_rfl) rfl (ex_x rfl (fun w1 h1 => x_mv rfl)) ?_
  refine e_exact 8 _ (by kernel_rfl) rfl rfl (by kernel_rfl) rfl (ex_x rfl (fun w1 h1 => x_quo rfl rfl ⟨hm0.1, hsp, by omega⟩)) ?_
  refine e_exact 9 _ (by kernel_rfl) rfl rfl (by kernel_rfl) rfl (ex_x rfl (fun w1 h1 => x_mv rfl)) ?_
  refine e_exact 10 _ (by kernel_rfl) rfl rfl (by kernel_rfl) rfl (ex_x rfl (fun w1 h1 => x_mv rfl)) ?_
  refine e_exact 11 _ (by kernel_rfl) rfl rfl (by kernel_rfl) rfl (ex_x rfl (fun w1 h1 => x_mul rfl rfl (by omega))) ?_
  refine e_exact 12 _ (by kernel_rfl) rfl rfl (by kernel_rfl) rfl (ex_x rfl (fun w1 h1 => x_mv rfl)) ?_
  refine e_exact 13 _ (by kernel_rfl) rfl rfl (by kernel_rfl) rfl (ex_x rfl (fun w1 h1 => x_rem rfl rfl ⟨hm0.1, hsp⟩)) ?_
  refine e_index EI 14 (by kernel_rfl) rfl rfl (by kernel_rfl) rfl rfl (vec_rd (S79.at 0 rfl)) rfl rfl Tryz.runUnderlying24 Tryz.sizeOf3 (by omega) (pre_get (by rw [hbl]; omega)) ?_
  intro b80 o81 hat82
  refine e_next [15] (by kernel_rfl) (by kernel_rfl) ⟨⟨_, _, rfl, rfl, ?_⟩, trivial⟩
  refine s_storevi (f := 0) S79 0 rfl rfl hat82 rfl rfl Tryz.sizeOf3 (pre_get (by rw [hbl]; omega)) (by decide) rfl ?_
  intro w83 S84 hk85
  refine ⟨hk85, ?_⟩
  refine e_done (by kernel_rfl) ?_
  refine l_index EI rfl (vec_rd (S84.at 1 rfl)) rfl rfl Tryz.runUnderlying24 Tryz.sizeOf3 (by omega) (pre_get (by rw [hcl]; omega)) ?_
  intro b86 o87 hat88 row89
  refine l_storevi (f := 0) S84 1 rfl rfl hat88 rfl rfl Tryz.sizeOf3 (pre_get (by rw [hcl]; omega)) (by decide) rfl ?_
  intro w90 S91 hk92
  refine l_nil ?_
  refine r_region ?_
  refine l_m rfl ?_
  refine l_m rfl ?_
  refine l_m rfl ?_
  refine l_index EI rfl (vec_rd (S91.at 0 rfl)) rfl rfl Tryz.runUnderlying24 Tryz.sizeOf3 (by omega) (by rw [Int.toNat_natCast, pre_step hba]; exact pre_last hba) ?_
  intro b93 o94 hat95 row96
  refine l_x rfl (x_load rfl (ld_cell Tryz.isAgg3 (row96 0 _ rfl))) ?_
  refine l_x rfl (x_sub rfl rfl (by omega)) ?_
  refine l_a rfl ?_
  refine l_nil ?_
  refine r_inBlock ?_
  refine r_region ?_
  refine l_x rfl (x_add rfl rfl (by omega)) ?_
  refine l_m rfl ?_
  refine l_nil ?_
  exact IH (i + 1) _ _ (by omega) ⟨rfl, rfl, rfl, rfl, (congrArg (Value.int .i64) (by rw [sumI_take hba]; omega)), rfl, rfl, rfl, trivial⟩ ⟨by omega, (by rw [← pre_step hba, ← pre_step hca]; exact S91.take 2)⟩
 obtain rfl : i = l.length := by omega
 refine r_exit rfl ?_
 refine r_seq ?_
 refine r_seq ?_
 rw [show l.length = (baseS t l).length from hbl.symm, pre_full, hbl, show l.length = (cutS t l).length from hcl.symm, pre_full] at S1
 refine r_slot 10 (.int .i64 (t - sumI (baseS t l))) (congrArg (Value.int .i64) (by rw [← hbl, List.take_length])) ?_
 refine r_region ?_
 refine l_m rfl ?_
 refine l_call [] [] [_, _] rfl rfl Tryz.call95 rfl (c_shsorted _ _ ⟨by rw [hcl]; omega, by rw [hcl]; omega⟩ _ (vec_rd (S1.at 1 rfl))) ?_
 rintro v6397 w97 ⟨L6397, hp6397, hs6397, hN6397, hl6397⟩
 have S98 := S1.add hl6397 hN6397
 have hLl6397 := hp6397.length_eq
 rw [idxs_len] at hLl6397
 refine l_m rfl ?_
 refine l_prefix S98 2 rfl rfl rfl rfl Tryz.runUnderlying24 Tryz.sizeOf3 (by rw [hLl6397, hcl]; omega) ?_
 intro v99 S100
 refine l_x rfl (x_len (vec_rd (S100.at 2 rfl)) rfl Tryz.runUnderlying24) ?_
 refine l_m rfl ?_
 refine l_nil ?_
 refine r_block ?_
 refine r_loop (G := Nat) (fun i => (L6397.take (t - sumI (baseS t l)).toNat).length - i) (fun i => [(8, v71), (65, v99), (66, .int .i64 (L6397.take (t - sumI (baseS t l)).toNat).length), (67, .int .i64 i)]) (fun i w' => (i ≤ (L6397.take (t - sumI (baseS t l)).toNat).length) ∧ Own nob w w' [vec EI v71 (bumps (baseS t l) ((L6397.take (t - sumI (baseS t l)).toNat).take i)), vec EI v99 (L6397.take (t - sumI (baseS t l)).toNat)]) 0 ⟨rfl, rfl, rfl, rfl, trivial⟩ ⟨Nat.zero_le _, (S100.pick [0, 2] (by decide) rfl)⟩ ?_
 rintro i ρ w1b ⟨hi2, S1b⟩ IHb
 refine r_seq ?_
 refine r_region ?_
 refine l_x rfl (x_lss rfl rfl) ?_
 refine l_nil ?_
 refine r_seq ?_
 refine r_ifd rfl (fun hc68 => ?_) (fun hc68 => ?_)
 ·skip
  obtain ⟨x, hx⟩ : ∃ x, (L6397.take (t - sumI (baseS t l)).toNat)[i]? = some x := ⟨_, List.getElem?_eq_getElem (by omega)⟩
  have hxm := mem_idxs.1 (hp6397.mem_iff.1 (List.mem_of_mem_take (List.mem_of_getElem? hx)))
  rw [hcl] at hxm
  have hzg := bump_get (o := baseS t l) (M := (L6397.take (t - sumI (baseS t l)).toNat).take i) (i := x.toNat) (by rw [hbl]; omega)
  have hzb := bump_bd htb hl0 hsp hp6397 hs6397 hcl (k := (t - sumI (baseS t l)).toNat) (i := i) x.toNat
  have hml9 : (L6397.take (t - sumI (baseS t l)).toNat).length ≤ L6397.length := by rw [List.length_take]; exact Nat.min_le_right _ _
  refine r_skip ?_
  refine r_seq ?_
  refine r_block ?_
  refine r_seq ?_
  refine r_region ?_
  refine l_index EI rfl (vec_rd (S1b.at 1 rfl)) rfl rfl Tryz.runUnderlying24 Tryz.sizeOf3 (by omega) hx ?_
  intro b101 o102 hat103 row104
  refine l_x rfl (x_load rfl (ld_cell Tryz.isAgg3 (row104 0 _ rfl))) ?_
  refine l_a rfl ?_
  refine l_nil ?_
  refine r_region ?_
  refine l_m rfl ?_
  refine l_m rfl ?_
  refine l_index EI rfl (vec_rd (S1b.at 0 rfl)) rfl rfl Tryz.runUnderlying24 Tryz.sizeOf3 (by omega) hzg ?_
  intro b105 o106 hat107 row108
  refine l_x rfl (x_load rfl (ld_cell Tryz.isAgg3 (row108 0 _ rfl))) ?_
  refine l_x rfl (x_add rfl rfl (by omega)) ?_
  refine l_index EI rfl (vec_rd (S1b.at 0 rfl)) rfl rfl Tryz.runUnderlying24 Tryz.sizeOf3 (by omega) hzg ?_
  intro b109 o110 hat111 row112
  refine l_storevi (f := 0) S1b 0 rfl rfl hat111 rfl rfl Tryz.sizeOf3 hzg (by decide) rfl ?_
  intro w113 S114 hk115
  refine l_nil ?_
  refine r_inBlock ?_
  refine r_region ?_
  refine l_x rfl (x_add rfl rfl (by omega)) ?_
  refine l_m rfl ?_
  refine l_nil ?_
  exact IHb (i + 1) _ _ (by omega) ⟨rfl, rfl, rfl, rfl, trivial⟩ ⟨by omega, (by rw [List.take_add_one, hx, show (some x).toList = [x] from rfl, bumps_snoc]; exact S114.take 2)⟩
 obtain rfl : i = (L6397.take (t - sumI (baseS t l)).toNat).length := by omega
 rw [List.take_length] at S1b
 refine r_exit rfl ?_
 refine r_seq ?_
 refine r_region ?_
 refine l_m rfl ?_
 refine l_a rfl ?_
 refine l_a rfl ?_
 refine l_nil ?_
 refine r_ret (rs := [.tmp 4, .tmp 5]) [_, _] Tryz.func38 rfl ⟨rfl, rfl, trivial⟩ ?_
 exact ⟨_, _, _, congrArg (fun q => Value.tuple #[_, .int .i64 q]) h0.symm, rfl, fun _ => whole_of (c := fun x => (cutS t l).getD x.toNat 0) (fun j => rfl) (by rw [← hcl]; exact hp6397) hs6397 hlf.1, S1b.new 0 rfl, S1b.le⟩

end Go.Proofs

namespace Go.Proofs
open Go Go.Vk Go.Vk.Flow

open Go.Vk.Deed

theorem free_bd {s : St} {o day : Int} (h : StB s) : free s o day ≤ 1000000000 := by
 have h1 := h.outS (o := o) (day := day)
 have h2 := h.pledged (o := o)
 have h3 := h.hb o
 unfold free; omega

set_option maxHeartbeats 4000000 in
theorem c_inherit (b : Nat) (n : Nm) (s : St) (a : Rw) (hf : formed a.1 = true) (hB : StB s) (hk : a.1.kind = 3) (hBm : 0 < free s a.1.frm a.1.day → ∀ i, StB (movesS a.1.frm (a.1.heirs.take i) ((wholeS (free s a.1.frm a.1.day) a.1.shares).take i) s)) (w0 : World) (hA : SubR 3 w0 a)  (w : World) (S0 : Own (rollS TY b n s).fp w w [rollS TY b n s]) (h0 : Le w0 w) (hX : ∀ c, (rollS TY b n s).fp c → w0.heap.size ≤ c) :
  Cp Tryz.prog 215 #[.pointer (some ⟨b, 0, none⟩), .agg (encD a).toArray] w (fun _ w' => ∃ n' s', do1 s a.1 = some s' ∧ Own (rollS TY b n s).fp w w' [rollS TY b n' s']) (fun v w' => v = .iface 180 (.agg #[]) ∧ do1 s a.1 = none ∧ ∃ n', Own (rollS TY b n s).fp w w' [rollS TY b n' s]) := by
 have hh := heirs_facts (formed_heirs hf hk)
 have hfr := free_bd hB (o := a.1.frm) (day := a.1.day)
 refine fn_of_runP (args := [_, _]) 54 Tryz.func215 rfl rfl rfl fun cs => ?_
 have S := S0
 refine r_seq ?_
 refine r_region ?_
 refine l_box S rfl rfl ?_
 intro b4 w1 S2 hl3
 refine l_nil ?_
 refine r_seq ?_
 refine r_region ?_
 refine l_m rfl ?_
 refine l_x rfl (x_fieldAddr rfl Tryz.runUnderlying26 rfl Tryz.sizeOf3 (by decide)) ?_
 refine l_x rfl (x_load rfl (ld_blk (S2.blk 1 rfl) Tryz.isAgg3 rfl)) ?_
 refine l_x rfl (x_fieldAddr rfl Tryz.runUnderlying26 rfl Tryz.sizeOf3 (by decide)) ?_
 refine l_x rfl (x_load rfl (ld_blk (S2.blk 1 rfl) Tryz.isAgg3 rfl)) ?_
 refine l_call [] [] [_, _, _] rfl rfl Tryz.call242 rfl (c_freeS b n s _ _ hB _ (S2.ro 0 rfl)) ?_
 rintro _ w5 ⟨rfl, hl7⟩
 have S6 := S2.step hl7
 refine l_a rfl ?_
 refine l_nil ?_
 refine r_seq ?_
 refine r_region ?_
 refine l_m rfl ?_
 refine l_x rfl (x_gtr rfl rfl) ?_
 refine l_callP [] [] [_] rfl rfl Tryz.call241 rfl (c_need _ _) ?_ ?_
 ·skip
  rintro _ w8 ⟨hok10, hl10⟩
  have S9 := S6.step hl10
  have hpos := of_decide_eq_true hok10
  refine l_nil ?_
  refine r_seq ?_
  refine r_region ?_
  refine l_m rfl ?_
  refine l_x rfl (x_fieldAddr rfl Tryz.runUnderlying26 rfl Tryz.sizeOf24 (by decide)) ?_
  refine l_x rfl (x_load rfl (ld_blk (S9.blk 1 rfl) Tryz.isAgg24 rfl)) ?_
  refine l_call [] [] [_, _] rfl rfl Tryz.call38 rfl (c_Whole _ _ _ (by omega) _ (hA.2.le (S9.old h0 hX))) ?_
  rintro _ w11 ⟨sw2211, r2211, e2211, rfl, he2211, hr2211, hN2211, hl2211⟩
  have S12 := S9.add hl2211 hN2211
  have he0 : e2211 = 0 := he2211.trans (prt_fine hh.2.2.2.2 (by omega) (by omega))
  subst he0
  obtain rfl : r2211 = wholeS (free s a.1.frm a.1.day) a.1.shares := hr2211 rfl
  refine l_m rfl ?_
  refine l_x rfl (x_extract rfl rfl) ?_
  refine l_x rfl (x_extract rfl rfl) ?_
  refine l_a rfl ?_
  refine l_a rfl ?_
  refine l_nil ?_
  refine r_seq ?_
  refine r_region ?_
  refine l_m rfl ?_
  refine l_x rfl (x_eql rfl rfl) ?_
  refine l_m rfl ?_
  refine l_splitd (d := 27) rfl (fun hg27 => ?_) (fun hg27 => ?_)
  ·skip
   refine l_m rfl ?_
   refine l_x rfl (x_len (vec_rd (S12.at 2 rfl)) rfl Tryz.runUnderlying24) ?_
   refine l_x rfl (x_fieldAddr rfl Tryz.runUnderlying26 rfl Tryz.sizeOf24 (by decide)) ?_
   refine l_x rfl (x_load rfl (ld_blk (S12.blk 1 rfl) Tryz.isAgg24 rfl)) ?_
   refine l_x rfl (x_len (hA.1.le (S12.old h0 hX)) rfl Tryz.runUnderlying24) ?_
   refine l_x rfl (x_eql rfl rfl) ?_
   refine l_x rfl (x_pick_t rfl rfl) ?_
   refine l_callP [] [] [_] rfl rfl Tryz.call241 rfl (c_need _ _) ?_ ?_
   ·skip
    rintro _ w13 ⟨hok15, hl15⟩
    have S14 := S12.step hl15
    refine l_nil ?_
    refine r_seq ?_
    refine r_region ?_
    refine l_x rfl (x_fieldAddr rfl Tryz.runUnderlying26 rfl Tryz.sizeOf24 (by decide)) ?_
    refine l_x rfl (x_load rfl (ld_blk (S14.blk 1 rfl) Tryz.isAgg24 rfl)) ?_
    refine l_x rfl (x_len (hA.1.le (S14.old h0 hX)) rfl Tryz.runUnderlying24) ?_
    refine l_m rfl ?_
    refine l_nil ?_
    refine r_block ?_
    refine r_loop (G := Nat × Nm) (fun ⟨i, n1⟩ => a.1.heirs.length - i) (fun ⟨i, n1⟩ => [(0, .pointer (some ⟨b, 0, none⟩)), (3, .pointer (some ⟨b4, 0, none⟩)), (5, sw2211), (37, hv a.2.1), (38, .int .i64 a.1.heirs.length), (39, .int .i64 i)]) (fun ⟨i, n1⟩ w' => (i ≤ a.1.heirs.length) ∧ Own (rollS TY b n s).fp w w' [rollS TY b n1 (movesS a.1.frm (a.1.heirs.take i) ((wholeS (free s a.1.frm a.1.day) a.1.shares).take i) s), blk b4 (encD a) 26, vec EI sw2211 (wholeS (free s a.1.frm a.1.day) a.1.shares)]) (0, n) ⟨rfl, rfl, rfl, rfl, rfl, rfl, trivial⟩ ⟨Nat.zero_le _, (S14.pick [0, 1, 2] (by decide) rfl)⟩ ?_
    rintro ⟨i, n1⟩ ρ w1 ⟨hi, S1⟩ IH
    refine r_seq ?_
    refine r_region ?_
    refine l_x rfl (x_lss rfl rfl) ?_
    refine l_nil ?_
    refine r_seq ?_
    refine r_ifd rfl (fun hc40 => ?_) (fun hc40 => ?_)
    ·skip
     obtain ⟨h, hhi⟩ : ∃ h, a.1.heirs[i]? = some h := ⟨_, List.getElem?_eq_getElem (by omega)⟩
     obtain ⟨y, hy⟩ : ∃ y, (wholeS (free s a.1.frm a.1.day) a.1.shares)[i]? = some y := ⟨_, List.getElem?_eq_getElem (by rw [whole_len]; omega)⟩
     refine r_skip ?_
     refine r_seq ?_
     refine r_block ?_
     refine r_seq ?_
     refine r_region ?_
     refine l_m rfl ?_
     refine l_index EI rfl (hA.1.le (S1.old h0 hX)) rfl rfl Tryz.runUnderlying24 Tryz.sizeOf3 (by omega) hhi ?_
     intro b16 o17 hat18 row19
     refine l_x rfl (x_load rfl (ld_cell Tryz.isAgg3 (row19 0 _ rfl))) ?_
     refine l_a rfl ?_
     refine l_a rfl ?_
     refine l_nil ?_
     refine r_drawR 8 Tryz.mixed (by kernel_rfl) ?_
     refine w_x rfl (fun w1 h1 => x_mv rfl) ?_
     refine w_x rfl (fun w1 h1 => x_fieldAddr rfl Tryz.runUnderlying26 rfl Tryz.sizeOf3 (by decide)) ?_
     refine w_x rfl (fun w1 h1 => x_load rfl (ld_blk ((S1.step h1).blk 1 rfl) Tryz.isAgg3 rfl)) ?_
     refine w_x rfl (fun w1 h1 => x_mv rfl) ?_
     refine w_x rfl (fun w1 h1 => x_mv rfl) ?_
     refine w_x rfl (fun w1 h1 => x_mv rfl) ?_
     refine w_index EI rfl (vec_rd (S1.at 2 rfl)) rfl rfl Tryz.runUnderlying24 Tryz.sizeOf3 (by omega) hy ?_
     intro b20 o21 hat22 row23
     refine w_x rfl (fun w1 h1 => x_load rfl (ld_cell Tryz.isAgg3 ((row23.le h1) 0 _ rfl))) ?_
     refine w_nil ?_
     intro w24 hl25
     have S26 := S1.step hl25
     refine l_call [] [] [_, _, _, _] rfl rfl Tryz.call243 rfl (c_move b n1 (movesS a.1.frm (a.1.heirs.take i) ((wholeS (free s a.1.frm a.1.day) a.1.shares).take i) s) a.1.frm h y hh.2.2.1 (hh.2.2.2.1 h (List.mem_of_getElem? hhi)) (hBm hpos i) (whole_bd (by omega) (fun x hx => by have := hh.2.2.2.2 x hx; omega) (sum_pos hh.2.2.2.2 (by omega)) hy) _ (S26.lend 0 rfl)) ?_
     rintro _ w27 ⟨nn29, hb30⟩
     have S28 := S26.back 0 rfl hb30
     refine l_nil ?_
     refine r_inBlock ?_
     refine r_region ?_
     refine l_x rfl (x_add rfl rfl (by omega)) ?_
     refine l_m rfl ?_
     refine l_nil ?_
     exact IH (i + 1, nn29) _ _ (by dsimp only; omega) ⟨rfl, rfl, rfl, rfl, rfl, rfl, trivial⟩ ⟨by omega, (by rw [moves_step hhi hy]; exact S28.take 3)⟩
    obtain rfl : i = a.1.heirs.length := by omega
    refine r_exit rfl ?_
    refine p_end (rs := []) [] Tryz.func215 rfl trivial ?_
    exact ⟨n1, _, do_heirs hk (of_decide_eq_true hok10), by have h : Own _ _ _ [rollS TY b n1 (movesS a.1.frm (a.1.heirs.take a.1.heirs.length) ((wholeS (free s a.1.frm a.1.day) a.1.shares).take a.1.heirs.length) s)] := S1.take 1; rw [List.take_length, List.take_of_length_le (by rw [whole_len]; omega)] at h; exact h⟩
   rintro _ w31 k ⟨hno33, rfl, hl33⟩
   have S32 := S12.step hl33
   exact absurd (show (((wholeS (free s a.1.frm a.1.day) a.1.shares).length : Nat) : Int) = a.1.heirs.length by rw [whole_len, hh.2.1]) (of_decide_eq_false hno33)
  exact absurd rfl hg27
 rintro _ w34 k ⟨hno36, rfl, hl36⟩
 have S35 := S6.step hl36
 exact leaveU_panic Tryz.func215 ⟨rfl, do_heirs0 hk (of_decide_eq_false hno36), n, S35.take 1⟩

end Go.Proofs

namespace Go.Proofs
open Go Go.Vk Go.Vk.Flow

open Go.Vk.Deed

theorem c_kinds  (w : World) :
  Cl Tryz.prog 184 #[] w fun v w' => v = .agg #[.nilFunc, .func (.func 213) #[] #[], .func (.func 214) #[] #[], .func (.func 215) #[] #[], .func (.func 216) #[] #[], .func (.func 217) #[] #[], .func (.func 218) #[] #[], .func (.func 219) #[] #[]] ∧ Le w w' := by
 refine fn_of_run (args := []) 2 Tryz.func184 rfl rfl rfl fun cs => ?_
 have S := Own.start (X := nob) w
 refine r_seq ?_
 refine r_region ?_
 refine l_alloc S rfl Tryz.zeroValue182 rfl ?_
 intro b4 w1 S2 hl3
 refine l_nil ?_
 refine r_seq ?_
 refine r_region ?_
 refine l_x rfl (x_buildA (out := [_, _, _, _, _, _, _, _]) Tryz.zeroValue182 rfl Tryz.runUnderlying182 Tryz.sizeOf181 (fill_cons rfl rfl rfl (Nat.le_of_ble_eq_true rfl) (fill_cons rfl rfl rfl (Nat.le_of_ble_eq_true rfl) (fill_cons rfl rfl rfl (Nat.le_of_ble_eq_true rfl) (fill_cons rfl rfl rfl (Nat.le_of_ble_eq_true rfl) (fill_cons rfl rfl rfl (Nat.le_of_ble_eq_true rfl) (fill_cons rfl rfl rfl (Nat.le_of_ble_eq_true rfl) (fill_cons rfl rfl rfl (Nat.le_of_ble_eq_true rfl) fill_nil)))))))) ?_
 refine l_stores (vs := [_, _, _, _, _, _, _, _]) S2 0 rfl rfl rfl rfl (ones_cons rfl (ones_cons rfl (ones_cons rfl (ones_cons rfl (ones_cons rfl (ones_cons rfl (ones_cons rfl (ones_cons rfl ones_nil)))))))) Tryz.sizeOf182 (by first | exact Nat.le_refl _ | simp) (splice_all rfl) ?_
 intro w5 S6 hk7
 refine l_nil ?_
 refine r_ret (rs := [.cell 0 182]) [_] Tryz.func184 rfl ⟨⟨_, rfl, (ld_blks (S6.blk 0 rfl) Tryz.isAgg182 Tryz.sizeOf182 rfl rfl)⟩, trivial⟩ ?_
 exact ⟨rfl, S6.le⟩

theorem c_try0 (b2 b3 : Nat) (w : World) :
  Dl Tryz.prog 183 #[.pointer (some ⟨b2, 0, none⟩), .pointer (some ⟨b3, 0, none⟩)] (.returning) w (fun u w' => u = .returning ∧ Le w w') := by
 refine dl_of_run (args := [_, _]) 22 Tryz.func183 rfl rfl rfl fun c0 cs hc0 => d_same hc0 ?_
 have S := Own.start (X := nob) w
 refine r_seq ?_
 refine r_region ?_
 refine l_recover0 rfl ?_
 refine l_nil ?_
 refine r_block ?_
 refine r_seq ?_
 refine r_region ?_
 refine l_x rfl (x_niliface Tryz.runUnderlying20 rfl rfl (.inl rfl) rfl) ?_
 refine l_nil ?_
 refine r_true rfl ?_
 refine r_region ?_
 refine l_a rfl ?_
 refine l_nil ?_
 refine r_inBlock ?_
 refine d_end (rs := []) [] Tryz.func183 rfl trivial ?_
 exact ⟨rfl, S.le⟩

set_option maxHeartbeats 2000000 in
theorem c_try1 (b : Nat) (n : Nm) (s : St) (a : Rw) (b2 b3 : Nat) (hil : s.idle.length ≤ 1000) (hn2 : ¬ (rollS TY b n s).fp b2) (hn3 : ¬ (rollS TY b n s).fp b3) (w : World) (hb2 : Blk w b2 [.pointer (some ⟨b, 0, none⟩)] 97) (hb3 : Blk w b3 (encD a) 26) (S0 : Own (rollS TY b n s).fp w w [rollS TY b n s]) :
  Dl Tryz.prog 183 #[.pointer (some ⟨b2, 0, none⟩), .pointer (some ⟨b3, 0, none⟩)] (.panicking [pentry (.iface 180 (.agg #[]))]) w (fun u w' => u = .panicking [pdone (.iface 180 (.agg #[]))] ∧ ∃ n', Own (rollS TY b n s).fp w w' [rollS TY b n' (idleS s a.1.id)]) := by
 refine dl_of_run (args := [_, _]) 22 Tryz.func183 rfl rfl rfl fun c0 cs hc0 => d_same hc0 ?_
 obtain ⟨hs, pf, sf, hok, S⟩ := Own.rollOpen (A := []) S0
 refine r_seq ?_
 refine r_region ?_
 refine l_recover rfl ?_
 refine l_nil ?_
 refine r_block ?_
 refine r_seq ?_
 refine r_region ?_
 refine l_x rfl (x_niliface Tryz.runUnderlying20 rfl rfl (.inr ⟨_, _, rfl⟩) rfl) ?_
 refine l_nil ?_
 refine r_false rfl ?_
 refine r_seq ?_
 refine r_region ?_
 refine l_x rfl (x_assert rfl Tryz.runUnderlying180 rfl) ?_
 refine l_x rfl (x_extract rfl rfl) ?_
 refine l_x rfl (x_extract rfl rfl) ?_
 refine l_nil ?_
 refine r_true rfl ?_
 refine r_seq ?_
 refine r_region ?_
 refine l_alloc S rfl Tryz.zeroValue180 rfl ?_
 intro b4 w1 S2 hl3
 refine l_stores (vs := []) S2 7 rfl rfl rfl rfl (ones_nil) Tryz.sizeOf180 (by first | exact Nat.le_refl _ | simp) (splice_all rfl) ?_
 intro w5 S6 hk7
 refine l_nil ?_
 refine r_drawE 9 (Rsc.fp (vec EI n.iv s.idle)) Tryz.mixed (by kernel_rfl) ?_
 intro w8 hl9
 have S10 := S6.step hl9
 refine e_exact 0 _ (by kernel_rfl) rfl rfl (by kernel_rfl) rfl (ex_x rfl (fun w1 h1 => x_load rfl (ld_blk (hb2.keep (S10.under 4 rfl h1).keep hn2) Tryz.isAgg97 rfl))) ?_
 refine e_exact 1 _ (by kernel_rfl) rfl rfl (by kernel_rfl) rfl (ex_x rfl (fun w1 h1 => x_load rfl (ld_blk (hb2.keep (S10.under 4 rfl h1).keep hn2) Tryz.isAgg97 rfl))) ?_
 refine e_exact 2 _ (by kernel_rfl) rfl rfl (by kernel_rfl) rfl (ex_x rfl (fun w1 h1 => x_nilCheck rfl)) ?_
 refine e_exact 3 _ (by kernel_rfl) rfl rfl (by kernel_rfl) rfl (ex_x rfl (fun w1 h1 => x_fieldAddr rfl Tryz.runUnderlying96 rfl Tryz.sizeOf24 (by decide))) ?_
 refine e_exact 4 _ (by kernel_rfl) rfl rfl (by kernel_rfl) rfl (ex_x rfl (fun w1 h1 => x_load rfl (ld_blk ((S10.under 4 rfl h1).blk 0 rfl) Tryz.isAgg24 rfl))) ?_
 refine e_exact 5 _ (by kernel_rfl) rfl rfl (by kernel_rfl) rfl (ex_x rfl (fun w1 h1 => x_fieldAddr rfl Tryz.runUnderlying26 rfl Tryz.sizeOf3 (by decide))) ?_
 refine e_exact 6 _ (by kernel_rfl) rfl rfl (by kernel_rfl) rfl (ex_x rfl (fun w1 h1 => x_load rfl (ld_blk (hb3.keep (S10.under 4 rfl h1).keep hn3) Tryz.isAgg3 rfl))) ?_
 refine e_next [7] (by kernel_rfl) (by kernel_rfl) ⟨⟨_, _, rfl, rfl, ?_⟩, trivial⟩
 refine s_buildSlice EI [a.1.id] S10 rfl Tryz.runUnderlying24 Tryz.sizeOf3 Tryz.zeroValue3 rfl ⟨rfl, rfl, trivial⟩ (by decide) ?_
 intro v14 w11 S12 hl13
 refine ⟨.of_le hl13, ?_⟩
 refine e_next [8] (by kernel_rfl) (by kernel_rfl) ⟨⟨_, _, rfl, rfl, ?_⟩, trivial⟩
 refine s_append EI S12 4 rfl rfl rfl rfl (vec_rd (S12.at 8 rfl)) Tryz.underlying24 info3 rfl rfl rfl (by unfold maxLen; rw [List.length_singleton]; omega) (by rw [List.length_singleton]; show _ * 8 ≤ _; omega) ?_
 intro v18 w15 S16 hk17 hv19
 refine ⟨hk17, ?_⟩
 refine e_done (by kernel_rfl) ?_
 refine l_x rfl (x_nilCheck rfl) ?_
 refine l_x rfl (x_fieldAddr rfl Tryz.runUnderlying96 rfl Tryz.sizeOf24 (by decide)) ?_
 refine l_storeq (c' := [_, _, _, _, _]) (v := v18) S16 0 rfl rfl rfl rfl (Rd.one (vec_rd (S16.at 4 rfl))) Tryz.sizeOf24 (by first | (simp; done) | exact Nat.le_of_ble_eq_true rfl) rfl ?_
 intro w20 S21 hk22
 refine l_nil ?_
 refine r_inBlock ?_
 refine d_end (rs := []) [] Tryz.func183 rfl trivial ?_
 exact ⟨rfl, { n with iv := v18 }, Own.rollShut (A := []) (s := idleS s a.1.id) (S21.take 7) hok.idle⟩

set_option maxHeartbeats 4000000 in
theorem c_try (b : Nat) (n : Nm) (s : St) (a : Rw) (hf : formed a.1 = true) (hk7 : a.1.kind = 1 ∨ a.1.kind = 2 ∨ a.1.kind = 3 ∨ a.1.kind = 4 ∨ a.1.kind = 5 ∨ a.1.kind = 6 ∨ a.1.kind = 7) (hB : StB s) (hil : s.idle.length ≤ 1000) (hnew : ∀ p ∈ s.pledges, p.deed ≠ a.1.id) (hBm : a.1.kind = 3 → 0 < free s a.1.frm a.1.day → ∀ i, StB (movesS a.1.frm (a.1.heirs.take i) ((wholeS (free s a.1.frm a.1.day) a.1.shares).take i) s)) (w0 : World) (hA : SubR 3 w0 a)  (w : World) (S0 : Own (rollS TY b n s).fp w w [rollS TY b n s]) (h0 : Le w0 w) (hX : ∀ c, (rollS TY b n s).fp c → w0.heap.size ≤ c) :
  Cl Tryz.prog 166 #[.pointer (some ⟨b, 0, none⟩), .agg (encD a).toArray] w fun _ w' => ∃ n', Own (rollS TY b n s).fp w w' [rollS TY b n' (try1 s a.1)] := by
 refine fn_of_run (args := [_, _]) 12 Tryz.func166 rfl rfl rfl fun cs => ?_
 have S := S0
 refine r_seq ?_
 refine r_region ?_
 refine l_box S rfl rfl ?_
 intro b4 w1 S2 hl3
 refine l_box S2 rfl rfl ?_
 intro b8 w5 S6 hl7
 refine l_nil ?_
 refine r_seq ?_
 refine r_region ?_
 refine l_x rfl (x_func rfl rfl) ?_
 refine l_defer [] [_, _] [] rfl rfl rfl rfl ?_
 refine l_nil ?_
 rcases hk7 with hk | hk | hk | hk | hk | hk | hk
 ·skip
  refine r_drawR 6 Tryz.mixed (by kernel_rfl) ?_
  refine wd_call [] [] [] rfl rfl Tryz.call184 rfl (fun w1 h1 => c_kinds _) ?_
  refine w_x rfl (fun w1 h1 => x_fieldAddr rfl Tryz.runUnderlying26 rfl Tryz.sizeOf5 (by decide)) ?_
  refine w_x rfl (fun w1 h1 => x_load rfl (ld_blk ((S6.step h1).blk 2 rfl) Tryz.isAgg5 rfl)) ?_
  refine w_x rfl (fun w1 h1 => x_part rfl rfl Tryz.runUnderlying182 Tryz.sizeOf181 Tryz.isAgg181 (by omega) (show _ = some (Value.func (.func 213) #[] #[]) from by rw [hk] <;> rfl)) ?_
  refine w_x rfl (fun w1 h1 => x_load rfl (ld_blk ((S6.step h1).blk 1 rfl) Tryz.isAgg97 rfl)) ?_
  refine w_x rfl (fun w1 h1 => x_load rfl (ld_blks ((S6.step h1).blk 2 rfl) Tryz.isAgg26 Tryz.sizeOf26 rfl rfl)) ?_
  refine w_nil ?_
  intro w9 hl10
  have S11 := S6.step hl10
  refine l_call [] [] [_, _] rfl rfl Tryz.call213 rfl (c_enter b n s a hf hB hk _ (S11.lend 0 rfl)) ?_
  rintro _ w12 ⟨n', s', hdo, hb14⟩
  have S13 := S11.back 0 rfl hb14
  refine l_nil ?_
  refine r_endU rfl ?_
  refine leave_defer rfl Tryz.call183 (by intro h; cases h) ?_
  change Dl _ _ #[.pointer (some ⟨b4, 0, none⟩), .pointer (some ⟨b8, 0, none⟩)] _ _ _
  refine (c_try0 _ _ _).mono ?_
  rintro _ wl ⟨rfl, hll⟩
  have Sl := S13.step hll
  refine leaveU_done (rs := []) [] Tryz.func166 rfl trivial ?_
  exact ⟨n', by rw [try_some hdo]; exact Sl.take 1⟩
 ·skip
  refine r_drawR 6 Tryz.mixed (by kernel_rfl) ?_
  refine wd_call [] [] [] rfl rfl Tryz.call184 rfl (fun w1 h1 => c_kinds _) ?_
  refine w_x rfl (fun w1 h1 => x_fieldAddr rfl Tryz.runUnderlying26 rfl Tryz.sizeOf5 (by decide)) ?_
  refine w_x rfl (fun w1 h1 => x_load rfl (ld_blk ((S6.step h1).blk 2 rfl) Tryz.isAgg5 rfl)) ?_
  refine w_x rfl (fun w1 h1 => x_part rfl rfl Tryz.runUnderlying182 Tryz.sizeOf181 Tryz.isAgg181 (by omega) (show _ = some (Value.func (.func 214) #[] #[]) from by rw [hk] <;> rfl)) ?_
  refine w_x rfl (fun w1 h1 => x_load rfl (ld_blk ((S6.step h1).blk 1 rfl) Tryz.isAgg97 rfl)) ?_
  refine w_x rfl (fun w1 h1 => x_load rfl (ld_blks ((S6.step h1).blk 2 rfl) Tryz.isAgg26 Tryz.sizeOf26 rfl rfl)) ?_
  refine w_nil ?_
  intro w15 hl16
  have S17 := S6.step hl16
  refine l_callP [] [] [_, _] rfl rfl Tryz.call214 rfl (c_grant b n s a hf hB hk _ (S17.lend 0 rfl)) ?_ ?_
  ·skip
   rintro _ w18 ⟨n', s', hdo, hb20⟩
   have S19 := S17.back 0 rfl hb20
   refine l_nil ?_
   refine r_endU rfl ?_
   refine leave_defer rfl Tryz.call183 (by intro h; cases h) ?_
   change Dl _ _ #[.pointer (some ⟨b4, 0, none⟩), .pointer (some ⟨b8, 0, none⟩)] _ _ _
   refine (c_try0 _ _ _).mono ?_
   rintro _ wl ⟨rfl, hll⟩
   have Sl := S19.step hll
   refine leaveU_done (rs := []) [] Tryz.func166 rfl trivial ?_
   exact ⟨n', by rw [try_some hdo]; exact Sl.take 1⟩
  rintro _ w21 k ⟨rfl, hdo, n', hb23⟩
  have S22 := S17.back 0 rfl hb23
  refine leave_defer rfl Tryz.call183 (by intro h; cases h) ?_
  change Dl _ _ #[.pointer (some ⟨b4, 0, none⟩), .pointer (some ⟨b8, 0, none⟩)] _ _ _
  refine (c_try1 b n' s a _ _ hil (fun hq => S22.dj 0 1 _ _ rfl rfl (by decide) _ hq rfl) (fun hq => S22.dj 0 2 _ _ rfl rfl (by decide) _ hq rfl) _ (S22.blk 1 rfl) (S22.blk 2 rfl) (S22.lend 0 rfl)).mono ?_
  rintro _ wl ⟨rfl, n2, hl2⟩
  have Sl := S22.back 0 rfl hl2
  refine leaveU_done (rs := []) [] Tryz.func166 rfl trivial ?_
  exact ⟨n2, by rw [try_none hdo]; exact Sl.take 1⟩
 ·skip
  refine r_drawR 6 Tryz.mixed (by kernel_rfl) ?_
  refine wd_call [] [] [] rfl rfl Tryz.call184 rfl (fun w1 h1 => c_kinds _) ?_
  refine w_x rfl (fun w1 h1 => x_fieldAddr rfl Tryz.runUnderlying26 rfl Tryz.sizeOf5 (by decide)) ?_
  refine w_x rfl (fun w1 h1 => x_load rfl (ld_blk ((S6.step h1).blk 2 rfl) Tryz.isAgg5 rfl)) ?_
  refine w_x rfl (fun w1 h1 => x_part rfl rfl Tryz.runUnderlying182 Tryz.sizeOf181 Tryz.isAgg181 (by omega) (show _ = some (Value.func (.func 215) #[] #[]) from by rw [hk] <;> rfl)) ?_
  refine w_x rfl (fun w1 h1 => x_load rfl (ld_blk ((S6.step h1).blk 1 rfl) Tryz.isAgg97 rfl)) ?_
  refine w_x rfl (fun w1 h1 => x_load rfl (ld_blks ((S6.step h1).blk 2 rfl) Tryz.isAgg26 Tryz.sizeOf26 rfl rfl)) ?_
  refine w_nil ?_
  intro w24 hl25
  have S26 := S6.step hl25
  refine l_callP [] [] [_, _] rfl rfl Tryz.call215 rfl (c_inherit b n s a hf hB hk (hBm hk) w0 hA _ (S26.lend 0 rfl) (S26.old h0 hX) hX) ?_ ?_
  ·skip
   rintro _ w27 ⟨n', s', hdo, hb29⟩
   have S28 := S26.back 0 rfl hb29
   refine l_nil ?_
   refine r_endU rfl ?_
   refine leave_defer rfl Tryz.call183 (by intro h; cases h) ?_
   change Dl _ _ #[.pointer (some ⟨b4, 0, none⟩), .pointer (some ⟨b8, 0, none⟩)] _ _ _
   refine (c_try0 _ _ _).mono ?_
   rintro _ wl ⟨rfl, hll⟩
   have Sl := S28.step hll
   refine leaveU_done (rs := []) [] Tryz.func166 rfl trivial ?_
   exact ⟨n', by rw [try_some hdo]; exact Sl.take 1⟩
  rintro _ w30 k ⟨rfl, hdo, n', hb32⟩
  have S31 := S26.back 0 rfl hb32
  refine leave_defer rfl Tryz.call183 (by intro h; cases h) ?_
  change Dl _ _ #[.pointer (some ⟨b4, 0, none⟩), .pointer (some ⟨b8, 0, none⟩)] _ _ _
  refine (c_try1 b n' s a _ _ hil (fun hq => S31.dj 0 1 _ _ rfl rfl (by decide) _ hq rfl) (fun hq => S31.dj 0 2 _ _ rfl rfl (by decide) _ hq rfl) _ (S31.blk 1 rfl) (S31.blk 2 rfl) (S31.lend 0 rfl)).mono ?_
  rintro _ wl ⟨rfl, n2, hl2⟩
  have Sl := S31.back 0 rfl hl2
  refine leaveU_done (rs := []) [] Tryz.func166 rfl trivial ?_
  exact ⟨n2, by rw [try_none hdo]; exact Sl.take 1⟩
 ·skip
  refine r_drawR 6 Tryz.mixed (by kernel_rfl) ?_
  refine wd_call [] [] [] rfl rfl Tryz.call184 rfl (fun w1 h1 => c_kinds _) ?_
  refine w_x rfl (fun w1 h1 => x_fieldAddr rfl Tryz.runUnderlying26 rfl Tryz.sizeOf5 (by decide)) ?_
  refine w_x rfl (fun w1 h1 => x_load rfl (ld_blk ((S6.step h1).blk 2 rfl) Tryz.isAgg5 rfl)) ?_
  refine w_x rfl (fun w1 h1 => x_part rfl rfl Tryz.runUnderlying182 Tryz.sizeOf181 Tryz.isAgg181 (by omega) (show _ = some (Value.func (.func 216) #[] #[]) from by rw [hk] <;> rfl)) ?_
  refine w_x rfl (fun w1 h1 => x_load rfl (ld_blk ((S6.step h1).blk 1 rfl) Tryz.isAgg97 rfl)) ?_
  refine w_x rfl (fun w1 h1 => x_load rfl (ld_blks ((S6.step h1).blk 2 rfl) Tryz.isAgg26 Tryz.sizeOf26 rfl rfl)) ?_
  refine w_nil ?_
  intro w33 hl34
  have S35 := S6.step hl34
  refine l_callP [] [] [_, _] rfl rfl Tryz.call216 rfl (c_lease b n s a hf hB hk _ (S35.lend 0 rfl)) ?_ ?_
  ·skip
   rintro _ w36 ⟨n', s', hdo, hb38⟩
   have S37 := S35.back 0 rfl hb38
   refine l_nil ?_
   refine r_endU rfl ?_
   refine leave_defer rfl Tryz.call183 (by intro h; cases h) ?_
   change Dl _ _ #[.pointer (some ⟨b4, 0, none⟩), .pointer (some ⟨b8, 0, none⟩)] _ _ _
   refine (c_try0 _ _ _).mono ?_
   rintro _ wl ⟨rfl, hll⟩
   have Sl := S37.step hll
   refine leaveU_done (rs := []) [] Tryz.func166 rfl trivial ?_
   exact ⟨n', by rw [try_some hdo]; exact Sl.take 1⟩
  rintro _ w39 k ⟨rfl, hdo, n', hb41⟩
  have S40 := S35.back 0 rfl hb41
  refine leave_defer rfl Tryz.call183 (by intro h; cases h) ?_
  change Dl _ _ #[.pointer (some ⟨b4, 0, none⟩), .pointer (some ⟨b8, 0, none⟩)] _ _ _
  refine (c_try1 b n' s a _ _ hil (fun hq => S40.dj 0 1 _ _ rfl rfl (by decide) _ hq rfl) (fun hq => S40.dj 0 2 _ _ rfl rfl (by decide) _ hq rfl) _ (S40.blk 1 rfl) (S40.blk 2 rfl) (S40.lend 0 rfl)).mono ?_
  rintro _ wl ⟨rfl, n2, hl2⟩
  have Sl := S40.back 0 rfl hl2
  refine leaveU_done (rs := []) [] Tryz.func166 rfl trivial ?_
  exact ⟨n2, by rw [try_none hdo]; exact Sl.take 1⟩
 ·skip
  refine r_drawR 6 Tryz.mixed (by kernel_rfl) ?_
  refine wd_call [] [] [] rfl rfl Tryz.call184 rfl (fun w1 h1 => c_kinds _) ?_
  refine w_x rfl (fun w1 h1 => x_fieldAddr rfl Tryz.runUnderlying26 rfl Tryz.sizeOf5 (by decide)) ?_
  refine w_x rfl (fun w1 h1 => x_load rfl (ld_blk ((S6.step h1).blk 2 rfl) Tryz.isAgg5 rfl)) ?_
  refine w_x rfl (fun w1 h1 => x_part rfl rfl Tryz.runUnderlying182 Tryz.sizeOf181 Tryz.isAgg181 (by omega) (show _ = some (Value.func (.func 217) #[] #[]) from by rw [hk] <;> rfl)) ?_
  refine w_x rfl (fun w1 h1 => x_load rfl (ld_blk ((S6.step h1).blk 1 rfl) Tryz.isAgg97 rfl)) ?_
  refine w_x rfl (fun w1 h1 => x_load rfl (ld_blks ((S6.step h1).blk 2 rfl) Tryz.isAgg26 Tryz.sizeOf26 rfl rfl)) ?_
  refine w_nil ?_
  intro w42 hl43
  have S44 := S6.step hl43
  refine l_callP [] [] [_, _] rfl rfl Tryz.call217 rfl (c_pledge b n s a hf hB hk hnew _ (S44.lend 0 rfl)) ?_ ?_
  ·skip
   rintro _ w45 ⟨n', s', hdo, hb47⟩
   have S46 := S44.back 0 rfl hb47
   refine l_nil ?_
   refine r_endU rfl ?_
   refine leave_defer rfl Tryz.call183 (by intro h; cases h) ?_
   change Dl _ _ #[.pointer (some ⟨b4, 0, none⟩), .pointer (some ⟨b8, 0, none⟩)] _ _ _
   refine (c_try0 _ _ _).mono ?_
   rintro _ wl ⟨rfl, hll⟩
   have Sl := S46.step hll
   refine leaveU_done (rs := []) [] Tryz.func166 rfl trivial ?_
   exact ⟨n', by rw [try_some hdo]; exact Sl.take 1⟩
  rintro _ w48 k ⟨rfl, hdo, n', hb50⟩
  have S49 := S44.back 0 rfl hb50
  refine leave_defer rfl Tryz.call183 (by intro h; cases h) ?_
  change Dl _ _ #[.pointer (some ⟨b4, 0, none⟩), .pointer (some ⟨b8, 0, none⟩)] _ _ _
  refine (c_try1 b n' s a _ _ hil (fun hq => S49.dj 0 1 _ _ rfl rfl (by decide) _ hq rfl) (fun hq => S49.dj 0 2 _ _ rfl rfl (by decide) _ hq rfl) _ (S49.blk 1 rfl) (S49.blk 2 rfl) (S49.lend 0 rfl)).mono ?_
  rintro _ wl ⟨rfl, n2, hl2⟩
  have Sl := S49.back 0 rfl hl2
  refine leaveU_done (rs := []) [] Tryz.func166 rfl trivial ?_
  exact ⟨n2, by rw [try_none hdo]; exact Sl.take 1⟩
 ·skip
  refine r_drawR 6 Tryz.mixed (by kernel_rfl) ?_
  refine wd_call [] [] [] rfl rfl Tryz.call184 rfl (fun w1 h1 => c_kinds _) ?_
  refine w_x rfl (fun w1 h1 => x_fieldAddr rfl Tryz.runUnderlying26 rfl Tryz.sizeOf5 (by decide)) ?_
  refine w_x rfl (fun w1 h1 => x_load rfl (ld_blk ((S6.step h1).blk 2 rfl) Tryz.isAgg5 rfl)) ?_
  refine w_x rfl (fun w1 h1 => x_part rfl rfl Tryz.runUnderlying182 Tryz.sizeOf181 Tryz.isAgg181 (by omega) (show _ = some (Value.func (.func 218) #[] #[]) from by rw [hk] <;> rfl)) ?_
  refine w_x rfl (fun w1 h1 => x_load rfl (ld_blk ((S6.step h1).blk 1 rfl) Tryz.isAgg97 rfl)) ?_
  refine w_x rfl (fun w1 h1 => x_load rfl (ld_blks ((S6.step h1).blk 2 rfl) Tryz.isAgg26 Tryz.sizeOf26 rfl rfl)) ?_
  refine w_nil ?_
  intro w51 hl52
  have S53 := S6.step hl52
  refine l_callP [] [] [_, _] rfl rfl Tryz.call218 rfl (c_redeem b n s a hf hB hk _ (S53.lend 0 rfl)) ?_ ?_
  ·skip
   rintro _ w54 ⟨n', s', hdo, hb56⟩
   have S55 := S53.back 0 rfl hb56
   refine l_nil ?_
   refine r_endU rfl ?_
   refine leave_defer rfl Tryz.call183 (by intro h; cases h) ?_
   change Dl _ _ #[.pointer (some ⟨b4, 0, none⟩), .pointer (some ⟨b8, 0, none⟩)] _ _ _
   refine (c_try0 _ _ _).mono ?_
   rintro _ wl ⟨rfl, hll⟩
   have Sl := S55.step hll
   refine leaveU_done (rs := []) [] Tryz.func166 rfl trivial ?_
   exact ⟨n', by rw [try_some hdo]; exact Sl.take 1⟩
  rintro _ w57 k ⟨rfl, hdo, n', hb59⟩
  have S58 := S53.back 0 rfl hb59
  refine leave_defer rfl Tryz.call183 (by intro h; cases h) ?_
  change Dl _ _ #[.pointer (some ⟨b4, 0, none⟩), .pointer (some ⟨b8, 0, none⟩)] _ _ _
  refine (c_try1 b n' s a _ _ hil (fun hq => S58.dj 0 1 _ _ rfl rfl (by decide) _ hq rfl) (fun hq => S58.dj 0 2 _ _ rfl rfl (by decide) _ hq rfl) _ (S58.blk 1 rfl) (S58.blk 2 rfl) (S58.lend 0 rfl)).mono ?_
  rintro _ wl ⟨rfl, n2, hl2⟩
  have Sl := S58.back 0 rfl hl2
  refine leaveU_done (rs := []) [] Tryz.func166 rfl trivial ?_
  exact ⟨n2, by rw [try_none hdo]; exact Sl.take 1⟩
 refine r_drawR 6 Tryz.mixed (by kernel_rfl) ?_
 refine wd_call [] [] [] rfl rfl Tryz.call184 rfl (fun w1 h1 => c_kinds _) ?_
 refine w_x rfl (fun w1 h1 => x_fieldAddr rfl Tryz.runUnderlying26 rfl Tryz.sizeOf5 (by decide)) ?_
 refine w_x rfl (fun w1 h1 => x_load rfl (ld_blk ((S6.step h1).blk 2 rfl) Tryz.isAgg5 rfl)) ?_
 refine w_x rfl (fun w1 h1 => x_part rfl rfl Tryz.runUnderlying182 Tryz.sizeOf181 Tryz.isAgg181 (by omega) (show _ = some (Value.func (.func 219) #[] #[]) from by rw [hk] <;> rfl)) ?_
 refine w_x rfl (fun w1 h1 => x_load rfl (ld_blk ((S6.step h1).blk 1 rfl) Tryz.isAgg97 rfl)) ?_
 refine w_x rfl (fun w1 h1 => x_load rfl (ld_blks ((S6.step h1).blk 2 rfl) Tryz.isAgg26 Tryz.sizeOf26 rfl rfl)) ?_
 refine w_nil ?_
 intro w60 hl61
 have S62 := S6.step hl61
 refine l_callP [] [] [_, _] rfl rfl Tryz.call219 rfl (c_seize b n s a hf hB hk _ (S62.lend 0 rfl)) ?_ ?_
 ·skip
  rintro _ w63 ⟨n', s', hdo, hb65⟩
  have S64 := S62.back 0 rfl hb65
  refine l_nil ?_
  refine r_endU rfl ?_
  refine leave_defer rfl Tryz.call183 (by intro h; cases h) ?_
  change Dl _ _ #[.pointer (some ⟨b4, 0, none⟩), .pointer (some ⟨b8, 0, none⟩)] _ _ _
  refine (c_try0 _ _ _).mono ?_
  rintro _ wl ⟨rfl, hll⟩
  have Sl := S64.step hll
  refine leaveU_done (rs := []) [] Tryz.func166 rfl trivial ?_
  exact ⟨n', by rw [try_some hdo]; exact Sl.take 1⟩
 rintro _ w66 k ⟨rfl, hdo, n', hb68⟩
 have S67 := S62.back 0 rfl hb68
 refine leave_defer rfl Tryz.call183 (by intro h; cases h) ?_
 change Dl _ _ #[.pointer (some ⟨b4, 0, none⟩), .pointer (some ⟨b8, 0, none⟩)] _ _ _
 refine (c_try1 b n' s a _ _ hil (fun hq => S67.dj 0 1 _ _ rfl rfl (by decide) _ hq rfl) (fun hq => S67.dj 0 2 _ _ rfl rfl (by decide) _ hq rfl) _ (S67.blk 1 rfl) (S67.blk 2 rfl) (S67.lend 0 rfl)).mono ?_
 rintro _ wl ⟨rfl, n2, hl2⟩
 have Sl := S67.back 0 rfl hl2
 refine leaveU_done (rs := []) [] Tryz.func166 rfl trivial ?_
 exact ⟨n2, by rw [try_none hdo]; exact Sl.take 1⟩

end Go.Proofs

namespace Go.Proofs
open Go Go.Vk Go.Vk.Flow

open Go.Vk.Deed
def untl (day : Int) (rs : List Rw) : List Rw := rs.filter fun a => decide (a.1.day ≤ day)
theorem untl_take {rs : List Rw} {day : Int} {i : Nat} {a : Rw} (h : rs[i]? = some a) : untl day (rs.take (i + 1)) = untl day (rs.take i) ++ if a.1.day ≤ day then [a] else [] := by
 rw [take_snoc rs i (List.getElem?_eq_some_iff.1 h).1, (List.getElem?_eq_some_iff.1 h).2, untl, List.filter_append]
 by_cases hd : a.1.day ≤ day <;> simp [untl, hd]
theorem untl_split (rs : List Rw) (day : Int) (i : Nat) : untl day rs = untl day (rs.take i) ++ untl day (rs.drop i) := by
 unfold untl; rw [← List.filter_append, List.take_append_drop]
theorem untl_dl (rs : List Rw) (day : Int) : dl (untl day rs) = (dl rs).filter fun x => decide (x.day ≤ day) := by
 unfold dl untl; rw [List.filter_map]; rfl
theorem untl_mem {rs : List Rw} {day : Int} {a : Rw} (h : a ∈ untl day rs) : a ∈ rs := (List.mem_filter.1 h).1

set_option maxHeartbeats 2000000 in
theorem c_until1 (rs : List Rw) (vl : Value) (day : Int) (b1 b2 yl : Nat) (X : Nat → Prop) (u : World) (hD : ∀ wz, Keep X u wz → DsR 26 3 wz vl rs) (R : List Rw → Rsc → Prop)
  (hy : ∀ t r a w1, R t r → (∃ s, untl day rs = t ++ a :: s) → Keep X u w1 → Own r.fp w1 w1 [r] → Yl Tryz.prog yl [.agg (encD a).toArray].toArray w1 fun v w2 => ∃ r', v = .bool true ∧ R (t ++ [a]) r' ∧ Own r.fp w1 w2 [r']) (r : Rsc) (hr : R [] r) (w : World) (S : Own X u w [blk b1 [vl] 23, blk b2 [.int .i64 day] 3, r]) :
  Cl Tryz.prog 167 #[.func (.yield yl) #[] #[], .pointer (some ⟨b1, 0, none⟩), .pointer (some ⟨b2, 0, none⟩)] w fun _ w' => ∃ r', R (untl day rs) r' ∧ Own X u w' [blk b1 [vl] 23, blk b2 [.int .i64 day] 3, r'] := by
 have hml := (hD _ S.keep).lm
 refine fn_of_run (args := [_, _, _]) 23 Tryz.func167 rfl rfl rfl fun cs => ?_
 refine r_seq ?_
 refine r_region ?_
 refine l_x rfl (x_load rfl (ld_blk (S.blk 0 rfl) Tryz.isAgg23 rfl)) ?_
 refine l_x rfl (x_len (hD _ S.keep).rd rfl Tryz.runUnderlying23) ?_
 refine l_m rfl ?_
 refine l_nil ?_
 refine r_block ?_
 refine r_loop (G := Nat × Rsc) (fun ⟨i, r1⟩ => rs.length - i) (fun ⟨i, r1⟩ => [(0, .func (.yield yl) #[] #[]), (1, .pointer (some ⟨b1, 0, none⟩)), (2, .pointer (some ⟨b2, 0, none⟩)), (6, vl), (8, .int .i64 i), (7, .int .i64 rs.length)]) (fun ⟨i, r1⟩ w' => (i ≤ rs.length) ∧ (R (untl day (rs.take i)) r1) ∧ Own X u w' [blk b1 [vl] 23, blk b2 [.int .i64 day] 3, r1]) (0, r) ⟨rfl, rfl, rfl, rfl, rfl, rfl, trivial⟩ ⟨Nat.zero_le _, by simpa [untl] using hr, (S.take 3)⟩ ?_
 rintro ⟨i, r1⟩ ρ w1 ⟨hi, hR, S1⟩ IH
 refine r_seq ?_
 refine r_region ?_
 refine l_x rfl (x_lss rfl rfl) ?_
 refine l_nil ?_
 refine r_seq ?_
 refine r_ifd rfl (fun hc9 => ?_) (fun hc9 => ?_)
 ·skip
  obtain ⟨a, ha⟩ : ∃ a, rs[i]? = some a := ⟨_, List.getElem?_eq_getElem (by omega)⟩
  refine r_skip ?_
  refine r_seq ?_
  refine r_block ?_
  refine r_seq ?_
  refine r_region ?_
  refine l_index ED rfl (hD _ S1.keep).rd rfl rfl Tryz.runUnderlying23 Tryz.sizeOf26 (by omega) ha ?_
  intro b1 o2 hat3 row4
  refine l_x rfl (x_load rfl (ld_row Tryz.isAgg26 Tryz.sizeOf26 rfl row4)) ?_
  refine l_alloc S1 rfl Tryz.zeroValue26 rfl ?_
  intro b8 w5 S6 hl7
  refine l_stores (vs := [_, _, _, _, _, _, _, _, _, _, _]) S6 3 rfl rfl rfl rfl (ones_cons rfl (ones_cons rfl (ones_cons rfl (ones_cons rfl (ones_cons rfl (ones_cons rfl (ones_cons rfl (ones_cons rfl (ones_cons rfl (ones_cons (Rd.one ((hD _ S6.keep).sub _ (List.mem_of_getElem? ha)).1) (ones_cons (Rd.one ((hD _ S6.keep).sub _ (List.mem_of_getElem? ha)).2) ones_nil))))))))))) Tryz.sizeOf26 (by first | exact Nat.le_refl _ | simp) (splice_all rfl) ?_
  intro w9 S10 hk11
  refine l_nil ?_
  refine r_seq ?_
  refine r_region ?_
  refine l_x rfl (x_fieldAddr rfl Tryz.runUnderlying26 rfl Tryz.sizeOf3 (by decide)) ?_
  refine l_x rfl (x_load rfl (ld_blk (S10.blk 3 rfl) Tryz.isAgg3 rfl)) ?_
  refine l_x rfl (x_load rfl (ld_blk (S10.blk 1 rfl) Tryz.isAgg3 rfl)) ?_
  refine l_x rfl (x_leq rfl rfl) ?_
  refine l_m rfl ?_
  refine l_splitd (d := 16) rfl (fun hg16 => ?_) (fun hg16 => ?_)
  ·skip
   refine l_m rfl ?_
   refine l_x rfl (x_load rfl (ld_blks (S10.blk 3 rfl) Tryz.isAgg26 Tryz.sizeOf26 rfl rfl)) ?_
   refine l_yield [_] rfl rfl rfl (hy (untl day (rs.take i)) r1 a _ hR ⟨_, by rw [untl_split rs day (i + 1), untl_take ha, if_pos (by simpa using hg16), List.append_assoc]; rfl⟩ S10.keep (S10.lend 2 rfl)) ?_
   rintro _ w12 ⟨r15, rfl, hRr15, hback13⟩
   have S14 := S10.back 2 rfl hback13
   refine l_x rfl (x_not rfl) ?_
   refine l_x rfl (x_pick_t rfl rfl) ?_
   refine l_nil ?_
   refine r_false rfl ?_
   refine r_skip ?_
   refine r_inBlock ?_
   refine r_region ?_
   refine l_x rfl (x_add rfl rfl (by omega)) ?_
   refine l_m rfl ?_
   refine l_nil ?_
   exact IH (i + 1, r15) _ _ (by dsimp only; omega) ⟨rfl, rfl, rfl, rfl, rfl, rfl, trivial⟩ ⟨by omega, by rw [untl_take ha, if_pos (by simpa using hg16)]; exact hRr15, (S14.take 3)⟩
  refine l_pass rfl ?_
  refine l_pass rfl ?_
  refine l_pass rfl ?_
  refine l_pass rfl ?_
  refine l_x rfl (x_pick_f rfl rfl) ?_
  refine l_nil ?_
  refine r_false rfl ?_
  refine r_skip ?_
  refine r_inBlock ?_
  refine r_region ?_
  refine l_x rfl (x_add rfl rfl (by omega)) ?_
  refine l_m rfl ?_
  refine l_nil ?_
  exact IH (i + 1, r1) _ _ (by dsimp only; omega) ⟨rfl, rfl, rfl, rfl, rfl, rfl, trivial⟩ ⟨by omega, by rw [untl_take ha, if_neg (by simpa using hg16), List.append_nil]; exact hR, (S10.take 3)⟩
 have hi : i = rs.length := by omega
 subst hi
 rw [List.take_length] at hR
 refine r_exit rfl ?_
 refine r_end (rs := []) [] Tryz.func167 rfl trivial ?_
 exact ⟨_, hR, S1⟩

theorem c_until (rs : List Rw) (vl : Value) (day : Int) (w : World) (hD : DsR 26 3 w vl rs) :
  Cl Tryz.prog 130 #[vl, .int .i64 day] w fun v w' => ∃ b1 b2, v = .func (.func 167) #[] #[.pointer (some ⟨b1, 0, none⟩), .pointer (some ⟨b2, 0, none⟩)] ∧ Own nob w w' [blk b1 [vl] 23, blk b2 [.int .i64 day] 3] := by
 refine fn_of_run (args := [_, _]) 6 Tryz.func130 rfl rfl rfl fun cs => ?_
 have S := Own.start (X := nob) w
 refine r_seq ?_
 refine r_region ?_
 refine l_box S rfl (Rd.cells (hD.rd.le S.le)) ?_
 intro b4 w1 S2 hl3
 refine l_box S2 rfl rfl ?_
 intro b8 w5 S6 hl7
 refine l_a rfl ?_
 refine l_nil ?_
 refine r_seq ?_
 refine r_region ?_
 refine l_x rfl (x_func rfl rfl) ?_
 refine l_a rfl ?_
 refine l_nil ?_
 refine r_ret (rs := [.tmp 4]) [_] Tryz.func130 rfl ⟨rfl, trivial⟩ ?_
 exact ⟨_, _, rfl, S6⟩

theorem rollok_nil (a b c : Nat) (v v' : Value) : RollOk ⟨a, b, c, v, v', []⟩ St.nil mnil mnil fun _ => mnil :=
 ⟨fun _ => rfl, nofun, fun _ => rfl, fun _ _ => rfl, nofun, fun _ _ _ => rfl, List.nodup_nil⟩

set_option maxHeartbeats 2000000 in
theorem c_done (rs : List Rw) (vl : Value) (day : Int) (hP : PlayL (dl rs)) (w : World) (hD : DsR 26 3 w vl rs) :
  Cl Tryz.prog 127 #[vl, .int .i64 day] w fun v w' => ∃ b n, v = .pointer (some ⟨b, 0, none⟩) ∧ Own nob w w' [rollS TY b n (doneD (dl rs) day)] := by
 have hPl : PlayL (dl (untl day rs)) := by rw [untl_dl]; exact hP.filter _
 refine fn_of_run (args := [_, _]) 20 Tryz.func127 rfl rfl rfl fun cs => ?_
 have S := Own.start (X := nob) w
 refine r_seq ?_
 refine r_region ?_
 refine l_a rfl ?_
 refine l_nil ?_
 refine r_seq ?_
 refine r_region ?_
 refine l_makeMap kInt kInt S rfl ?_
 intro m4 w1 S2 hl3
 refine l_makeMap kInt plV S2 rfl ?_
 intro m8 w5 S6 hl7
 refine l_makeMap kInt mV S6 rfl ?_
 intro m12 w9 S10 hl11
 refine l_x rfl (x_buildS (out := [_, _, _, _, _]) (ss := [1, 1, 1, 1, 1]) Tryz.zeroValue96 rfl Tryz.runUnderlying96 ⟨Tryz.sizeOf91, Tryz.sizeOf92, Tryz.sizeOf93, Tryz.sizeOf24, Tryz.sizeOf94, trivial⟩ (fill_cons rfl rfl rfl (Nat.le_of_ble_eq_true rfl) (fill_cons rfl rfl rfl (Nat.le_of_ble_eq_true rfl) (fill_cons rfl rfl rfl (Nat.le_of_ble_eq_true rfl) fill_nil)))) ?_
 refine l_box S10 rfl rfl ?_
 intro b16 w13 S14 hl15
 refine l_alloc S14 rfl Tryz.zeroValue97 rfl ?_
 intro b20 w17 S18 hl19
 refine l_storeq (c' := [_]) S18 4 rfl rfl rfl rfl rfl Tryz.sizeOf97 (by first | (simp; done) | exact Nat.le_of_ble_eq_true rfl) rfl ?_
 intro w21 S22 hk23
 refine l_nil ?_
 refine r_seq ?_
 refine r_seq ?_
 refine r_region ?_
 refine l_m rfl ?_
 refine l_m rfl ?_
 refine l_call [] [] [_, _] rfl rfl Tryz.call130 rfl (c_until rs vl day _ (hD.le S22.le)) ?_
 rintro _ w24 ⟨b27, b28, rfl, h26⟩
 have S25 := S22.join h26
 have Sn := ((Own.nilvec (E := EI) (Own.nilvec (E := ELS) S25)).nopack)
 have S29 := Sn.pick (L' := [_, _, _, _, _, _, _, _, _, _]) [5, 6, 4, 3, 0, 7, 1, 8, 2, 9] (by decide) rfl
 have hok0 : RollOk ⟨m4, m8, m12, (.slice none 0 0), (.slice none 0 0), []⟩ St.nil mnil mnil fun _ => mnil := rollok_nil _ _ _ _ _
 have Sr : Own _ _ _ ([_, _, _] ++ [rollS TY b16 _ St.nil]) := Own.rollShut (A := [_, _, _]) (s := St.nil) S29 hok0
 refine l_nil ?_
 refine r_block ?_
 refine r_rangeFunc [] [_, _] Sr rfl rfl Tryz.call167 ?_
 intro D30 l31 w32 S33 hl34
 have S35 : Own _ _ _ [_, _, _, _, _, _] := S33.pick [0, 1, 2, 3, 4, 5] (by decide) rfl
 have S36 := Own.pack (A := [_, _]) (L := [_, _, _, _]) S35
 refine (c_until1 rs vl day _ _ _ nob w (fun _ hk => hD.le hk) (fun t r => (∃ n1, r = pack [blk b20 [_] 97, rollS TY b16 n1 (play (dl t)), _, _]) ∧ ∀ c, r.fp c → w.heap.size ≤ c) ?_ _ ⟨⟨_, rfl⟩, fun c hc => ((S36).bd 2 _ rfl c hc).2.resolve_right id⟩ _ S36).mono ?_
 ·skip
  rintro t _ a w1 ⟨⟨n1, rfl⟩, hfp⟩ ⟨s, hin⟩ hle hS
  have S37 := hS.open
  have hPa : PlayOk (dl t) a.1 := PlayL.at (r := dl s) (by rw [hin] at hPl; simpa [dl] using hPl)
  have ham : a ∈ rs := untl_mem (by rw [hin]; simp)
  refine yl_of_run (S37.obj 3 rfl) rfl (fun c cs => ?_)
  refine r_region ?_
  refine l_alloc S37 rfl Tryz.zeroValue26 rfl ?_
  intro b41 w38 S39 hl40
  refine l_stores (vs := [_, _, _, _, _, _, _, _, _, _, _]) S39 4 rfl rfl rfl rfl (ones_cons rfl (ones_cons rfl (ones_cons rfl (ones_cons rfl (ones_cons rfl (ones_cons rfl (ones_cons rfl (ones_cons rfl (ones_cons rfl (ones_cons (Rd.one ((hD.sub a ham).1.le ((S39.old hle hfp)))) (ones_cons (Rd.one ((hD.sub a ham).2.le ((S39.old hle hfp)))) ones_nil))))))))))) Tryz.sizeOf26 (by first | exact Nat.le_refl _ | simp) (splice_all rfl) ?_
  intro w42 S43 hk44
  refine l_nil ?_
  refine r_beginRound S43 3 rfl rfl ?_
  intro w45 S46 hk47
  refine r_block ?_
  refine r_region ?_
  refine l_x rfl (x_load rfl (ld_blk (S46.blk 0 rfl) Tryz.isAgg97 rfl)) ?_
  refine l_x rfl (x_load rfl (ld_blks (S46.blk 4 rfl) Tryz.isAgg26 Tryz.sizeOf26 rfl rfl)) ?_
  refine l_call [] [] [_, _] rfl rfl Tryz.call166 rfl (c_try _ n1 (play (dl t)) a hPa.f hPa.k hPa.b hPa.il hPa.nw hPa.m w (hD.sub a ham) _ (S46.lend 1 rfl) (S46.old hle hfp) (fun c hc => hfp c ⟨_, List.mem_cons_of_mem _ (List.mem_cons_self ..), hc⟩)) ?_
  rintro _ w48 ⟨n51, hb50⟩
  have S49 := S46.back 1 rfl hb50
  refine l_nil ?_
  refine r_inBlock ?_
  refine r_roundEnd S49 3 rfl ?_
  intro w52 S53
  have hpl : play (dl (t ++ [a])) = try1 (play (dl t)) a.1 := by rw [dl, List.map_append]; exact play_snoc
  have hC := (S53.take 4).close
  exact ⟨_, rfl, ⟨⟨n51, hpl ▸ rfl⟩, fun c hc => (hC.bd 0 _ rfl c hc).2.elim (fun h => Nat.le_trans hle.size h) (hfp c)⟩, hC⟩
 rintro _ w54 ⟨_, ⟨⟨n2, rfl⟩, _⟩, hback55⟩
 have S56 := Own.unpack (A := [_, _]) (L := [_, _, _, _]) hback55
 refine r_endRange S56 5 rfl rfl ?_
 intro w57 S58 hk59
 refine r_inBlock ?_
 refine r_seq ?_
 refine r_region ?_
 refine l_x rfl (x_load rfl (ld_blk (S58.blk 2 rfl) Tryz.isAgg97 rfl)) ?_
 refine l_a rfl ?_
 refine l_nil ?_
 refine r_retL rfl ?_
 refine leave_mark S58 4 rfl ?_
 intro w60 S61 hk62
 refine leave_done (rs := [.tmp 4]) [_] Tryz.func127 rfl ⟨rfl, trivial⟩ ?_
 have hE : Own nob w _ [rollS TY _ _ (play (dl (untl day rs)))] := S61.pick [3] (by decide) rfl
 rw [untl_dl] at hE
 exact ⟨_, _, rfl, hE⟩

end Go.Proofs

namespace Go.Proofs
open Go Go.Vk Go.Vk.Flow

open Go.Vk.Deed
theorem dsr_nil (w : World) : DsR 26 3 w (.slice none 0 0) [] := ⟨vec_rd (.inl ⟨rfl, rfl⟩), by simp, by simp⟩

set_option maxHeartbeats 2000000 in
theorem c_on (rs : List Rw) (vl : Value) (known day : Int) (w : World) (hD : DsR 26 3 w vl rs) :
  Cl Tryz.prog 82 #[vl, .int .i64 known, .int .i64 day] w fun v w' => ∃ b n, v = .pointer (some ⟨b, 0, none⟩) ∧ Own nob w w' [rollS TY b n (onD (dl rs) known day)] := by
 refine fn_of_run (args := [_, _, _]) 17 Tryz.func82 rfl rfl rfl fun cs => ?_
 have S := Own.start (X := nob) w
 refine r_seq ?_
 refine r_region ?_
 refine l_a rfl ?_
 refine l_nil ?_
 refine r_seq ?_
 refine r_seq ?_
 refine r_region ?_
 refine l_m rfl ?_
 refine l_call [] [] [_] rfl rfl Tryz.call104 rfl (c_right rs _ _ (hD.le S.le)) ?_
 rintro _ w1 ⟨rfl, hl3⟩
 have S2 := S.step hl3
 refine l_x rfl (x_not rfl) ?_
 refine l_nil ?_
 refine r_if rfl (fun hc9 => ?_) (fun hc9 => ?_)
 ·skip
  have hR : rightD (dl rs) = false := by simpa using hc9
  refine r_seq ?_
  refine r_region ?_
  refine l_m rfl ?_
  refine l_call [] [] [_, _] rfl rfl Tryz.call127 rfl (c_done [] (.slice none 0 0) day PlayL.nil _ (dsr_nil _)) ?_
  rintro _ w4 ⟨b7, n8, rfl, h6⟩
  have S5 := S2.join h6
  refine l_a rfl ?_
  refine l_nil ?_
  refine r_ret (rs := [.tmp 6]) [_] Tryz.func82 rfl ⟨rfl, trivial⟩ ?_
  exact ⟨_, _, rfl, by rw [onD, hR]; exact S5.pick [0] (by decide) rfl⟩
 have hR : rightD (dl rs) = true := by simpa using hc9
 refine r_skip ?_
 refine r_seq ?_
 refine r_region ?_
 refine l_m rfl ?_
 refine l_m rfl ?_
 refine l_call [] [] [_, _] rfl rfl Tryz.call106 rfl (c_counting rs _ known (right_asc hR) (by have := right_len hR; rw [dl_len] at this; exact this) _ (hD.le S2.le)) ?_
 rintro v149 w9 ⟨rq149, hq149, hm149, hN149, hl149⟩
 have S10 := S2.add hl149 hN149
 have hlq149 : rq149.length ≤ 400 := by rw [← dl_len, hq149]; exact count_len hR
 have hD2 := hD.mem S10.le (vec_rd (S10.at 0 rfl)) hm149 (by omega)
 have hP2 : PlayL (dl rq149) := by rw [hq149]; exact right_play hR
 have hq2 := hq149
 refine l_m rfl ?_
 refine l_call [] [] [_, _] rfl rfl Tryz.call127 rfl (c_done _ _ day hP2 _ hD2) ?_
 rintro _ w11 ⟨b14, n15, rfl, h13⟩
 have S12 := S10.join h13
 refine l_a rfl ?_
 refine l_nil ?_
 refine r_ret (rs := [.tmp 6]) [_] Tryz.func82 rfl ⟨rfl, trivial⟩ ?_
 exact ⟨_, _, rfl, by rw [onD, hR]; rw [← hq2]; exact S12.pick [1] (by decide) rfl⟩

end Go.Proofs

namespace Go.Proofs
open Go Go.Vk Go.Vk.Flow

open Go.Vk.Deed
theorem on_play (l : List D) (known day : Int) : ∃ t, PlayL t ∧ onD l known day = play t := by
 by_cases h : rightD l = true
 ·exact ⟨_, (right_play (known := known) h).filter _, by rw [onD, if_pos h]; rfl⟩
 exact ⟨[], PlayL.nil, by rw [onD, if_neg h]; rfl⟩
theorem on_stb (l : List D) (known day : Int) : StB (onD l known day) := by
 obtain ⟨t, h, e⟩ := on_play l known day
 rw [e]; exact (play_inv _ rfl h).stb h.e h.len
theorem on_il (l : List D) (known day : Int) : (onD l known day).idle.length ≤ 1000000000 := by
 obtain ⟨t, h, e⟩ := on_play l known day
 have h1 := (play_inv _ rfl h).il
 have := h.len
 rw [e]; omega
theorem c_Idle (rs : List Rw) (vl : Value) (known : Int) (w : World) (hD : DsR 26 3 w vl rs) :
  Cl Tryz.prog 51 #[vl, .int .i64 known] w fun v w' => New w w' (vec EI v (idleD (dl rs) known)) ∧ Le w w' := by
 have hel := on_il (dl rs) known 100000
 refine fn_of_run (args := [_, _]) 12 Tryz.func51 rfl rfl rfl fun cs => ?_
 have S := Own.start (X := nob) w
 refine r_seq ?_
 refine r_region ?_
 refine l_a rfl ?_
 refine l_nil ?_
 refine r_seq ?_
 refine r_region ?_
 refine l_m rfl ?_
 refine l_m rfl ?_
 refine l_call [] [] [_, _, _] rfl rfl Tryz.call82 rfl (c_on rs vl known 100000 _ (hD.le S.le)) ?_
 rintro _ w1 ⟨b6, n7, rfl, h5⟩
 have S2 := S.join h5
 obtain ⟨hs, pf, sf, hok, S3⟩ := Own.rollOpen (A := []) S2
 have S4 := S3.pack
 refine l_x rfl (x_nilCheck rfl) ?_
 refine l_x rfl (x_fieldAddr rfl Tryz.runUnderlying96 rfl Tryz.sizeOf24 (by decide)) ?_
 refine l_x rfl (x_load rfl (ld_blk (RollRO.mk hok (S4.ro 0 rfl)).blk Tryz.isAgg24 rfl)) ?_
 refine l_call [] [] [_, _] rfl rfl Tryz.call110 rfl (c_sortedInt _ _ hel _ (RollRO.mk hok (S4.ro 0 rfl)).im) ?_
 rintro v118 w8 ⟨l118, hp118, hs118, hN118, hl118⟩
 have S9 := S4.add hl118 hN118
 refine l_a rfl ?_
 refine l_nil ?_
 refine r_ret (rs := [.tmp 4]) [_] Tryz.func51 rfl ⟨rfl, trivial⟩ ?_
 obtain rfl : l118 = idleD (dl rs) known := asc_of hp118 hs118
 exact ⟨S9.new 1 rfl, S9.le⟩

theorem c_AccountOf (rs : List Rw) (vl : Value) (known : Int) (day o : Int) (w : World) (hD : DsR 26 3 w vl rs) :
  Cl Tryz.prog 55 #[vl, .int .i64 known, .int .i64 day, .int .i64 o] w fun v w' => v = .agg (encAc (accOf (dl rs) known day o)).toArray ∧ Le w w' := by
 have hB := on_stb (dl rs) known day
 refine fn_of_run (args := [_, _, _, _]) 26 Tryz.func55 rfl rfl rfl fun cs => ?_
 have S := Own.start (X := nob) w
 refine r_seq ?_
 refine r_region ?_
 refine l_alloc S rfl Tryz.zeroValue66 rfl ?_
 intro b4 w1 S2 hl3
 refine l_nil ?_
 refine r_seq ?_
 refine r_seq ?_
 refine r_region ?_
 refine l_m rfl ?_
 refine l_buildSlice EI [o] S2 rfl Tryz.runUnderlying24 Tryz.sizeOf3 Tryz.zeroValue3 rfl ⟨rfl, rfl, trivial⟩ (Nat.le_of_ble_eq_true rfl) ?_
 intro v8 w5 S6 hl7
 refine l_call [] [] [_] rfl rfl Tryz.call105 rfl (c_owned _ _ (by first | omega | exact Nat.le_of_ble_eq_true rfl) _ (vec_rd (S6.at 1 rfl))) ?_
 rintro _ w9 ⟨rfl, hl11⟩
 have S10 := S6.step hl11
 refine l_x rfl (x_not rfl) ?_
 refine l_m rfl ?_
 refine l_split (d := 13) rfl (fun hg13 => ?_) (fun hg13 => ?_)
 ·skip
  refine l_pass rfl ?_
  refine l_pass rfl ?_
  refine l_pass rfl ?_
  refine l_x rfl (x_pick_t rfl rfl) ?_
  refine l_nil ?_
  refine r_true rfl ?_
  refine r_seq ?_
  refine r_region ?_
  refine l_x rfl (x_buildS (out := [_, _, _, _, _]) (ss := [1, 1, 1, 1, 1]) Tryz.zeroValue66 rfl Tryz.runUnderlying66 ⟨Tryz.sizeOf3, Tryz.sizeOf3, Tryz.sizeOf3, Tryz.sizeOf3, Tryz.sizeOf3, trivial⟩ fill_nil) ?_
  refine l_stores (vs := [_, _, _, _, _]) S10 0 rfl rfl rfl rfl (ones_cons rfl (ones_cons rfl (ones_cons rfl (ones_cons rfl (ones_cons rfl ones_nil))))) Tryz.sizeOf66 (by first | exact Nat.le_refl _ | simp) (splice_all rfl) ?_
  intro w12 S13 hk14
  refine l_nil ?_
  refine r_ret (rs := [.cell 8 66]) [_] Tryz.func55 rfl ⟨⟨_, rfl, (ld_blks (S13.blk 0 rfl) Tryz.isAgg66 Tryz.sizeOf66 rfl rfl)⟩, trivial⟩ ?_
  exact ⟨by rw [accOf, if_neg (by simp_all)]; rfl, S13.le⟩
 refine l_m rfl ?_
 refine l_call [] [] [_] rfl rfl Tryz.call104 rfl (c_right rs _ _ (hD.le S10.le)) ?_
 rintro _ w15 ⟨rfl, hl17⟩
 have S16 := S10.step hl17
 refine l_x rfl (x_not rfl) ?_
 refine l_x rfl (x_pick_f rfl rfl) ?_
 refine l_nil ?_
 refine r_if rfl (fun hc17 => ?_) (fun hc17 => ?_)
 ·skip
  refine r_seq ?_
  refine r_region ?_
  refine l_x rfl (x_buildS (out := [_, _, _, _, _]) (ss := [1, 1, 1, 1, 1]) Tryz.zeroValue66 rfl Tryz.runUnderlying66 ⟨Tryz.sizeOf3, Tryz.sizeOf3, Tryz.sizeOf3, Tryz.sizeOf3, Tryz.sizeOf3, trivial⟩ fill_nil) ?_
  refine l_stores (vs := [_, _, _, _, _]) S16 0 rfl rfl rfl rfl (ones_cons rfl (ones_cons rfl (ones_cons rfl (ones_cons rfl (ones_cons rfl ones_nil))))) Tryz.sizeOf66 (by first | exact Nat.le_refl _ | simp) (splice_all rfl) ?_
  intro w18 S19 hk20
  refine l_nil ?_
  refine r_ret (rs := [.cell 8 66]) [_] Tryz.func55 rfl ⟨⟨_, rfl, (ld_blks (S19.blk 0 rfl) Tryz.isAgg66 Tryz.sizeOf66 rfl rfl)⟩, trivial⟩ ?_
  exact ⟨by rw [accOf, if_neg (by simp_all)]; rfl, S19.le⟩
 refine r_skip ?_
 refine r_seq ?_
 refine r_region ?_
 refine l_m rfl ?_
 refine l_m rfl ?_
 refine l_m rfl ?_
 refine l_call [] [] [_, _, _] rfl rfl Tryz.call82 rfl (c_on rs vl known day _ (hD.le S16.le)) ?_
 rintro _ w21 ⟨b26, n27, rfl, h25⟩
 have S22 := S16.join h25
 obtain ⟨hs, pf, sf, hok, S23⟩ := Own.rollOpen (A := [_, _]) S22
 have S24 := S23.pack
 refine l_m rfl ?_
 refine l_m rfl ?_
 refine l_call [] [] [_, _, _] rfl rfl Tryz.call117 rfl (c_account _ _ _ hs pf sf _ _ hB _ (RollRO.mk hok (S24.ro 2 rfl))) ?_
 rintro _ w28 ⟨rfl, hl30⟩
 have S29 := S24.step hl30
 refine l_stores (vs := [_, _, _, _, _]) S29 0 rfl rfl rfl rfl (ones_cons rfl (ones_cons rfl (ones_cons rfl (ones_cons rfl (ones_cons rfl ones_nil))))) Tryz.sizeOf66 (by first | exact Nat.le_refl _ | simp) (splice_all rfl) ?_
 intro w31 S32 hk33
 refine l_nil ?_
 refine r_ret (rs := [.cell 8 66]) [_] Tryz.func55 rfl ⟨⟨_, rfl, (ld_blks (S32.blk 0 rfl) Tryz.isAgg66 Tryz.sizeOf66 rfl rfl)⟩, trivial⟩ ?_
 exact ⟨by rw [accOf, if_pos (by simp_all)]; rfl, S32.le⟩

theorem accOf_bd (l : List D) (known day o : Int) : (-2000000000000 ≤ (accOf l known day o).holds ∧ (accOf l known day o).holds ≤ 2000000000000) ∧ (-2000000000000 ≤ (accOf l known day o).out ∧ (accOf l known day o).out ≤ 2000000000000) ∧ (-2000000000000 ≤ (accOf l known day o).inn ∧ (accOf l known day o).inn ≤ 2000000000000) ∧ (-2000000000000 ≤ (accOf l known day o).pledged ∧ (accOf l known day o).pledged ≤ 2000000000000) := by
 have hB := on_stb l known day
 rw [accOf]
 split
 ·have h1 := hB.outS (o := o) (day := day)
  have h2 := hB.pledged (o := o)
  have h3 := hB.hb o
  have h4 := hB.inS (o := o) (day := day)
  simp only [acc]; omega
 simp

theorem c_Uses (rs : List Rw) (vl : Value) (known : Int) (day o : Int) (w : World) (hD : DsR 26 3 w vl rs) :
  Cl Tryz.prog 36 #[vl, .int .i64 known, .int .i64 day, .int .i64 o] w fun v w' => v = .int .i64 (usesD (dl rs) known day o) ∧ Le w w' := by
 have hbd := accOf_bd (dl rs) known day o
 refine fn_of_run (args := [_, _, _, _]) 23 Tryz.func36 rfl rfl rfl fun cs => ?_
 have S := Own.start (X := nob) w
 refine r_seq ?_
 refine r_region ?_
 refine l_a rfl ?_
 refine l_nil ?_
 refine r_seq ?_
 refine r_region ?_
 refine l_m rfl ?_
 refine l_m rfl ?_
 refine l_m rfl ?_
 refine l_m rfl ?_
 refine l_call [] [] [_, _, _, _] rfl rfl Tryz.call55 rfl (c_AccountOf rs vl known day o _ (hD.le S.le)) ?_
 rintro _ w1 ⟨rfl, hl3⟩
 have S2 := S.step hl3
 refine l_alloc S2 rfl Tryz.zeroValue66 rfl ?_
 intro b7 w4 S5 hl6
 refine l_stores (vs := [_, _, _, _, _]) S5 0 rfl rfl rfl rfl (ones_cons rfl (ones_cons rfl (ones_cons rfl (ones_cons rfl (ones_cons rfl ones_nil))))) Tryz.sizeOf66 (by first | exact Nat.le_refl _ | simp) (splice_all rfl) ?_
 intro w8 S9 hk10
 refine l_nil ?_
 refine r_seq ?_
 refine r_region ?_
 refine l_x rfl (x_fieldAddr rfl Tryz.runUnderlying66 rfl Tryz.sizeOf3 (by decide)) ?_
 refine l_x rfl (x_load rfl (ld_blk (S9.blk 0 rfl) Tryz.isAgg3 rfl)) ?_
 refine l_x rfl (x_fieldAddr rfl Tryz.runUnderlying66 rfl Tryz.sizeOf3 (by decide)) ?_
 refine l_x rfl (x_load rfl (ld_blk (S9.blk 0 rfl) Tryz.isAgg3 rfl)) ?_
 refine l_x rfl (x_sub rfl rfl (by omega)) ?_
 refine l_x rfl (x_fieldAddr rfl Tryz.runUnderlying66 rfl Tryz.sizeOf3 (by decide)) ?_
 refine l_x rfl (x_load rfl (ld_blk (S9.blk 0 rfl) Tryz.isAgg3 rfl)) ?_
 refine l_x rfl (x_add rfl rfl (by omega)) ?_
 refine l_a rfl ?_
 refine l_nil ?_
 refine r_ret (rs := [.tmp 8]) [_] Tryz.func36 rfl ⟨rfl, trivial⟩ ?_
 exact ⟨rfl, S9.le⟩

theorem c_Free (rs : List Rw) (vl : Value) (known : Int) (day o : Int) (w : World) (hD : DsR 26 3 w vl rs) :
  Cl Tryz.prog 56 #[vl, .int .i64 known, .int .i64 day, .int .i64 o] w fun v w' => v = .int .i64 (freeD (dl rs) known day o) ∧ Le w w' := by
 have hbd := accOf_bd (dl rs) known day o
 refine fn_of_run (args := [_, _, _, _]) 23 Tryz.func56 rfl rfl rfl fun cs => ?_
 have S := Own.start (X := nob) w
 refine r_seq ?_
 refine r_region ?_
 refine l_a rfl ?_
 refine l_nil ?_
 refine r_seq ?_
 refine r_region ?_
 refine l_m rfl ?_
 refine l_m rfl ?_
 refine l_m rfl ?_
 refine l_m rfl ?_
 refine l_call [] [] [_, _, _, _] rfl rfl Tryz.call55 rfl (c_AccountOf rs vl known day o _ (hD.le S.le)) ?_
 rintro _ w1 ⟨rfl, hl3⟩
 have S2 := S.step hl3
 refine l_alloc S2 rfl Tryz.zeroValue66 rfl ?_
 intro b7 w4 S5 hl6
 refine l_stores (vs := [_, _, _, _, _]) S5 0 rfl rfl rfl rfl (ones_cons rfl (ones_cons rfl (ones_cons rfl (ones_cons rfl (ones_cons rfl ones_nil))))) Tryz.sizeOf66 (by first | exact Nat.le_refl _ | simp) (splice_all rfl) ?_
 intro w8 S9 hk10
 refine l_nil ?_
 refine r_seq ?_
 refine r_region ?_
 refine l_x rfl (x_fieldAddr rfl Tryz.runUnderlying66 rfl Tryz.sizeOf3 (by decide)) ?_
 refine l_x rfl (x_load rfl (ld_blk (S9.blk 0 rfl) Tryz.isAgg3 rfl)) ?_
 refine l_x rfl (x_fieldAddr rfl Tryz.runUnderlying66 rfl Tryz.sizeOf3 (by decide)) ?_
 refine l_x rfl (x_load rfl (ld_blk (S9.blk 0 rfl) Tryz.isAgg3 rfl)) ?_
 refine l_x rfl (x_sub rfl rfl (by omega)) ?_
 refine l_x rfl (x_fieldAddr rfl Tryz.runUnderlying66 rfl Tryz.sizeOf3 (by decide)) ?_
 refine l_x rfl (x_load rfl (ld_blk (S9.blk 0 rfl) Tryz.isAgg3 rfl)) ?_
 refine l_x rfl (x_sub rfl rfl (by omega)) ?_
 refine l_a rfl ?_
 refine l_nil ?_
 refine r_ret (rs := [.tmp 8]) [_] Tryz.func56 rfl ⟨rfl, trivial⟩ ?_
 exact ⟨rfl, S9.le⟩

end Go.Proofs

namespace Go.Proofs
open Go Go.Vk Go.Vk.Flow

open Go.Vk.Deed
abbrev lateP (a : Rw) : Bool := decide (a.1.kind ≠ 8 ∧ a.1.day < a.1.known)
theorem late_dl (rs : List Rw) : (rs.filter lateP).map (·.1.id) = ((dl rs).filter fun x => decide (x.kind ≠ 8 ∧ x.day < x.known)).map (·.id) := by
 rw [dl, List.filter_map, List.map_map]; rfl

set_option maxHeartbeats 2000000 in
theorem c_Late (rs : List Rw) (vl : Value) (hlr : rs.length ≤ 1000000000) (w : World) (hD : DsR 26 3 w vl rs) :
  Cl Tryz.prog 53 #[vl] w fun v w' => New w w' (vec EI v (lateD (dl rs))) ∧ Le w w' := by
 have hml := hD.lm
 have hfl := fun i => List.length_filter_le lateP (rs.take i)
 refine fn_of_run (args := [_]) 32 Tryz.func53 rfl rfl rfl fun cs => ?_
 have S := Own.start (X := nob) w
 refine r_seq ?_
 refine r_region ?_
 refine l_a rfl ?_
 refine l_nil ?_
 refine r_seq ?_
 refine r_region ?_
 refine l_a rfl ?_
 have S1 := S.nilvec (E := EI)
 refine l_nil ?_
 refine r_seq ?_
 refine r_seq ?_
 refine r_region ?_
 refine l_m rfl ?_
 refine l_x rfl (x_len (hD.rd.le S1.le) rfl Tryz.runUnderlying23) ?_
 refine l_m rfl ?_
 refine l_nil ?_
 refine r_block ?_
 refine r_loop (G := Nat × Value) (fun ⟨i, vo⟩ => rs.length - i) (fun ⟨i, vo⟩ => [(0, vl), (3, vo), (6, vl), (7, .int .i64 rs.length), (8, .int .i64 i)]) (fun ⟨i, vo⟩ w' => (i ≤ rs.length) ∧ Own nob w w' [vec EI vo (((rs.take i).filter lateP).map (·.1.id))]) (0, .slice none 0 0) ⟨rfl, rfl, rfl, rfl, rfl, trivial⟩ ⟨Nat.zero_le _, (S1.take 1)⟩ ?_
 rintro ⟨i, vo⟩ ρ w1 ⟨hi, S1⟩ IH
 refine r_seq ?_
 refine r_region ?_
 refine l_x rfl (x_lss rfl rfl) ?_
 refine l_nil ?_
 refine r_seq ?_
 refine r_ifd rfl (fun hc9 => ?_) (fun hc9 => ?_)
 ·skip
  obtain ⟨a, ha⟩ : ∃ a, rs[i]? = some a := ⟨_, List.getElem?_eq_getElem (by omega)⟩
  have ham := List.mem_of_getElem? ha
  refine r_skip ?_
  refine r_seq ?_
  refine r_block ?_
  refine r_seq ?_
  refine r_region ?_
  refine l_index ED rfl (hD.rd.le S1.le) rfl rfl Tryz.runUnderlying23 Tryz.sizeOf26 (by omega) ha ?_
  intro b2 o3 hat4 row5
  refine l_x rfl (x_load rfl (ld_row Tryz.isAgg26 Tryz.sizeOf26 rfl row5)) ?_
  refine l_alloc S1 rfl Tryz.zeroValue26 rfl ?_
  intro b9 w6 S7 hl8
  refine l_stores (vs := [_, _, _, _, _, _, _, _, _, _, _]) S7 1 rfl rfl rfl rfl (ones_cons rfl (ones_cons rfl (ones_cons rfl (ones_cons rfl (ones_cons rfl (ones_cons rfl (ones_cons rfl (ones_cons rfl (ones_cons rfl (ones_cons (Rd.one ((hD.sub _ ham).1.le S7.le)) (ones_cons (Rd.one ((hD.sub _ ham).2.le S7.le)) ones_nil))))))))))) Tryz.sizeOf26 (by first | exact Nat.le_refl _ | simp) (splice_all rfl) ?_
  intro w10 S11 hk12
  refine l_nil ?_
  refine r_seq ?_
  refine r_region ?_
  refine l_x rfl (x_fieldAddr rfl Tryz.runUnderlying26 rfl Tryz.sizeOf5 (by decide)) ?_
  refine l_x rfl (x_load rfl (ld_blk (S11.blk 1 rfl) Tryz.isAgg5 rfl)) ?_
  refine l_x rfl (x_neq rfl rfl) ?_
  refine l_m rfl ?_
  refine l_splitd (d := 15) rfl (fun hg15 => ?_) (fun hg15 => ?_)
  ·skip
   refine l_x rfl (x_fieldAddr rfl Tryz.runUnderlying26 rfl Tryz.sizeOf3 (by decide)) ?_
   refine l_x rfl (x_load rfl (ld_blk (S11.blk 1 rfl) Tryz.isAgg3 rfl)) ?_
   refine l_x rfl (x_fieldAddr rfl Tryz.runUnderlying26 rfl Tryz.sizeOf3 (by decide)) ?_
   refine l_x rfl (x_load rfl (ld_blk (S11.blk 1 rfl) Tryz.isAgg3 rfl)) ?_
   refine l_x rfl (x_gtr rfl rfl) ?_
   refine l_x rfl (x_pick_t rfl rfl) ?_
   refine l_nil ?_
   refine r_ifd rfl (fun hc21 => ?_) (fun hc21 => ?_)
   ·skip
    refine r_region ?_
    refine l_m rfl ?_
    refine l_x rfl (x_fieldAddr rfl Tryz.runUnderlying26 rfl Tryz.sizeOf3 (by decide)) ?_
    refine l_x rfl (x_load rfl (ld_blk (S11.blk 1 rfl) Tryz.isAgg3 rfl)) ?_
    refine l_buildSlice EI [a.1.id] S11 rfl Tryz.runUnderlying24 Tryz.sizeOf3 Tryz.zeroValue3 rfl ⟨rfl, rfl, trivial⟩ (Nat.le_of_ble_eq_true rfl) ?_
    intro v16 w13 S14 hl15
    refine l_append EI S14 0 rfl rfl rfl rfl (vec_rd (S14.at 2 rfl)) Tryz.underlying24 info3 rfl rfl rfl (by have := hfl i; rw [List.length_take] at this; unfold maxLen; simp; omega) (by have := hfl i; rw [List.length_take] at this; show _ * 8 ≤ _; simp; omega) ?_
    intro v20 w17 S18 hk19 hv21
    refine l_a rfl ?_
    refine l_nil ?_
    refine r_inBlock ?_
    refine r_region ?_
    refine l_x rfl (x_add rfl rfl (by omega)) ?_
    refine l_m rfl ?_
    refine l_nil ?_
    exact IH (i + 1, v20) _ _ (by dsimp only; omega) ⟨rfl, rfl, rfl, rfl, rfl, trivial⟩ ⟨by omega, (by rw [filter_step ha, if_pos (by simp only [lateP]; first | (simp_all; done) | (simp_all; intros; omega))]; rw [List.map_append]; exact S18.take 1)⟩
   refine r_skip ?_
   refine r_inBlock ?_
   refine r_region ?_
   refine l_x rfl (x_add rfl rfl (by omega)) ?_
   refine l_m rfl ?_
   refine l_nil ?_
   exact IH (i + 1, vo) _ _ (by dsimp only; omega) ⟨rfl, rfl, rfl, rfl, rfl, trivial⟩ ⟨by omega, (by rw [filter_step ha, if_neg (by simp only [lateP]; first | (simp_all; done) | (simp_all; intros; omega))]; rw [List.append_nil]; exact S11.take 1)⟩
  refine l_pass rfl ?_
  refine l_pass rfl ?_
  refine l_pass rfl ?_
  refine l_pass rfl ?_
  refine l_pass rfl ?_
  refine l_x rfl (x_pick_f rfl rfl) ?_
  refine l_nil ?_
  refine r_false rfl ?_
  refine r_skip ?_
  refine r_inBlock ?_
  refine r_region ?_
  refine l_x rfl (x_add rfl rfl (by omega)) ?_
  refine l_m rfl ?_
  refine l_nil ?_
  exact IH (i + 1, vo) _ _ (by dsimp only; omega) ⟨rfl, rfl, rfl, rfl, rfl, trivial⟩ ⟨by omega, (by rw [filter_step ha, if_neg (by simp only [lateP]; first | (simp_all; done) | (simp_all; intros; omega))]; rw [List.append_nil]; exact S11.take 1)⟩
 obtain rfl : i = rs.length := by omega
 refine r_exit rfl ?_
 refine r_seq ?_
 refine r_seq ?_
 refine r_region ?_
 refine l_m rfl ?_
 refine l_call [] [] [_] rfl rfl Tryz.call104 rfl (c_right rs _ _ (hD.le S1.le)) ?_
 rintro _ w22 ⟨rfl, hl24⟩
 have S23 := S1.step hl24
 refine l_x rfl (x_not rfl) ?_
 refine l_nil ?_
 refine r_if rfl (fun hc30 => ?_) (fun hc30 => ?_)
 ·skip
  refine r_seq ?_
  refine r_region ?_
  refine l_a rfl ?_
  refine l_nil ?_
  refine r_ret (rs := [.tmp 2]) [_] Tryz.func53 rfl ⟨rfl, trivial⟩ ?_
  exact ⟨by rw [lateD, if_neg (by simp_all)]; exact New.nilvec .., S23.le⟩
 refine r_skip ?_
 refine r_seq ?_
 refine r_region ?_
 refine l_m rfl ?_
 refine l_a rfl ?_
 refine l_nil ?_
 refine r_ret (rs := [.tmp 2]) [_] Tryz.func53 rfl ⟨rfl, trivial⟩ ?_
 exact ⟨by rw [lateD, if_pos (by simp_all), ← late_dl]; have hN := S23.new 0 rfl; rw [List.take_length] at hN; exact hN, S23.le⟩

end Go.Proofs

namespace Go.Proofs
open Go Go.Vk Go.Vk.Flow

open Go.Vk.Deed
theorem app_dl {rs rs1 : List Rw} {a : Rw} (h0 : (appendD (dl rs) a.1).1 = 0) (h1 : dl rs1 = (appendD (dl rs) a.1).2) (hs : ∀ x ∈ rs, x.1.heirs.length ≤ 9223372036854775807 ∧ x.1.shares.length ≤ 9223372036854775807) (ha : a.1.heirs.length ≤ 9223372036854775807 ∧ a.1.shares.length ≤ 9223372036854775807) :
  (∀ x ∈ rs1, x.1.heirs.length ≤ 9223372036854775807 ∧ x.1.shares.length ≤ 9223372036854775807) ∧ rs1.length ≤ 1000 := by
 unfold appendD at h0 h1
 split at h0
 ·next h => exact absurd h0 h
 split at h0
 ·next h => exact absurd h0 h
 next hc hf =>
 rw [if_neg hc, if_neg hf] at h1
 have hf2 := follows_formed (Decidable.not_not.1 hf)
 refine ⟨fun x hx => ?_, ?_⟩
 ·have hm := mem_dl hx
  rw [h1] at hm
  rcases List.mem_append.1 hm with g | g
  ·obtain ⟨y, hy, e⟩ := List.mem_map.1 g
   have := hs y hy
   rw [e] at this; exact this
  simp at g; rw [g]; exact ha
 rw [← dl_len, h1, List.length_append, List.length_singleton]; omega
theorem idle_len (l : List D) (known : Int) : (idleD l known).length ≤ 1000000000 := by
 have := on_il l known 100000
 unfold idleD Go.Vk.Deed.asc
 rw [List.length_mergeSort]; exact this

set_option maxHeartbeats 2000000 in
theorem c_Possible (rs : List Rw) (vl : Value) (known : Int) (a : Rw) (w : World) (hD : DsR 26 3 w vl rs) (hA : SubR 3 w a) :
  Cl Tryz.prog 27 #[vl, .int .i64 known, .agg (encD a).toArray] w fun v w' => v = .int .i64 (possD (dl rs) known a.1) ∧ Le w w' := by
 refine fn_of_run (args := [_, _, _]) 24 Tryz.func27 rfl rfl rfl fun cs => ?_
 have S := Own.start (X := nob) w
 refine r_seq ?_
 refine r_region ?_
 refine l_box S rfl rfl ?_
 intro b4 w1 S2 hl3
 refine l_a rfl ?_
 refine l_nil ?_
 refine r_seq ?_
 refine r_region ?_
 refine l_m rfl ?_
 refine l_x rfl (x_load rfl (ld_blks (S2.blk 0 rfl) Tryz.isAgg26 Tryz.sizeOf26 rfl rfl)) ?_
 refine l_call [] [] [_, _] rfl rfl Tryz.call42 rfl (c_Append rs vl a _ (hD.le S2.le) (hA.le S2.le)) ?_
 rintro _ w5 ⟨s1, rs1, e1, rfl, he1, hrs1, h7⟩
 have S6 := S2.join h7
 refine l_m rfl ?_
 refine l_x rfl (x_extract rfl rfl) ?_
 refine l_x rfl (x_extract rfl rfl) ?_
 refine l_a rfl ?_
 refine l_a rfl ?_
 refine l_nil ?_
 refine r_seq ?_
 refine r_seq ?_
 refine r_region ?_
 refine l_m rfl ?_
 refine l_x rfl (x_neq rfl rfl) ?_
 refine l_nil ?_
 refine r_ifd rfl (fun hc16 => ?_) (fun hc16 => ?_)
 ·skip
  refine r_seq ?_
  refine r_region ?_
  refine l_m rfl ?_
  refine l_a rfl ?_
  refine l_nil ?_
  refine r_ret (rs := [.tmp 6]) [_] Tryz.func27 rfl ⟨rfl, trivial⟩ ?_
  exact ⟨congrArg (Value.int .i64) (by rw [possD, if_pos (by rw [← he1]; exact hc16), ← he1]), S6.le⟩
 have he0 := Decidable.not_not.1 hc16
 have hh1 := app_dl (he1.symm.trans he0) hrs1 (fun x hx => ⟨(hD.sub x hx).hm, (hD.sub x hx).sm⟩) ⟨hA.hm, hA.sm⟩
 have hil := idle_len (dl rs1) known
 refine r_skip ?_
 refine r_seq ?_
 refine r_seq ?_
 refine r_drawE 6 nob Tryz.mixed (by kernel_rfl) ?_
 intro w8 hl9
 have S10 := S6.step hl9
 refine e_exact 0 _ (by kernel_rfl) rfl rfl (by kernel_rfl) rfl (ex_x rfl (fun w1 h1 => x_mv rfl)) ?_
 refine e_exact 1 _ (by kernel_rfl) rfl rfl (by kernel_rfl) rfl (ex_x rfl (fun w1 h1 => x_mv rfl)) ?_
 refine e_exact 3 _ (by kernel_rfl) rfl rfl (by kernel_rfl) rfl (ex_x rfl (fun w1 h1 => x_fieldAddr rfl Tryz.runUnderlying26 rfl Tryz.sizeOf3 (by decide))) ?_
 refine e_exact 4 _ (by kernel_rfl) rfl rfl (by kernel_rfl) rfl (ex_x rfl (fun w1 h1 => x_load rfl (ld_blk ((S10.step h1).blk 0 rfl) Tryz.isAgg3 rfl))) ?_
 refine e_next [2] (by kernel_rfl) (by kernel_rfl) ⟨⟨_, _, rfl, rfl, ?_⟩, trivial⟩
 refine s_callf [] [] [_, _] rfl rfl Tryz.call51 rfl ((c_Idle rs1 s1 known _ (dnest_dsr (S10.at 1 rfl) (S10.at 2 rfl) hh1.1 (by have := hh1.2; omega))).mono ?_)
 rintro v2011 w11 ⟨hN2011, hl2011⟩
 have S12 := S10.add hl2011 hN2011
 refine ⟨.of_le hl2011, ?_⟩
 refine e_next [5] (by kernel_rfl) (by kernel_rfl) ⟨⟨_, _, rfl, rfl, ?_⟩, trivial⟩
 refine s_callf [] [] [_, _] rfl rfl Tryz.call83 rfl ((c_Contains _ _ _ (by omega) _ (vec_rd (S12.at 3 rfl))).mono ?_)
 rintro _ w13 ⟨rfl, hl15⟩
 have S14 := S12.step hl15
 refine ⟨.of_le hl15, ?_⟩
 refine e_done (by kernel_rfl) ?_
 refine l_nil ?_
 refine r_if rfl (fun hc23 => ?_) (fun hc23 => ?_)
 ·skip
  refine r_seq ?_
  refine r_region ?_
  refine l_a rfl ?_
  refine l_nil ?_
  refine r_ret (rs := [.tmp 6]) [_] Tryz.func27 rfl ⟨rfl, trivial⟩ ?_
  exact ⟨congrArg (Value.int .i64) (by rw [possD, if_neg (by rw [← he1]; simp [he0]), if_pos (by rw [← hrs1]; simpa using hc23)]), S14.le⟩
 refine r_skip ?_
 refine r_seq ?_
 refine r_region ?_
 refine l_a rfl ?_
 refine l_nil ?_
 refine r_ret (rs := [.tmp 6]) [_] Tryz.func27 rfl ⟨rfl, trivial⟩ ?_
 exact ⟨congrArg (Value.int .i64) (by rw [possD, if_neg (by rw [← he1]; simp [he0]), if_neg (by rw [← hrs1]; simpa using hc23)]), S14.le⟩

end Go.Proofs

namespace Go.Proofs
open Go Go.Vk Go.Vk.Flow

open Go.Vk.Deed
theorem on_ln (l : List D) (known day : Int) : ((onD l known day).leases.map (·.deed)).Nodup := by
 obtain ⟨t, h, e⟩ := on_play l known day
 rw [e]; exact play_ln _ rfl h
theorem on_pn (l : List D) (known day : Int) : ((onD l known day).pledges.map (·.deed)).Nodup := by
 obtain ⟨t, h, e⟩ := on_play l known day
 rw [e]; exact (play_inv _ rfl h).pn
abbrev dayP (day : Int) (x : Ls) : Bool := decide (x.day ≤ day ∧ day ≤ x.stop)
theorem lz_of {l : List D} {known day : Int} {l' : List Lz} (hp : l'.Perm (((onD l known day).leases.filter (dayP day)).map (·.z))) (hs : SortedL (fun x y : Lz => cmpI x.deed y.deed) l') : l' = leasesD l known day := by
 refine sorted_key (fun x : Lz => x.deed) hp (hs.imp fun h => ?_) ?_
 ·simp only [ltOf, cmpI] at h
  revert h; repeat' split
  all_goals first | omega | (simp; done) | (simp; omega)
 rw [List.map_map]
 exact (on_ln l known day).sublist (List.filter_sublist.map _)

set_option maxHeartbeats 2000000 in
theorem c_Leases (rs : List Rw) (vl : Value) (known : Int) (day : Int) (w : World) (hD : DsR 26 3 w vl rs) :
  Cl Tryz.prog 68 #[vl, .int .i64 known, .int .i64 day] w fun v w' => New w w' (vec ELZ v (leasesD (dl rs) known day)) ∧ Le w w' := by
 have hB := on_stb (dl rs) known day
 have hll := hB.ll
 have hfl := fun i => List.length_filter_le (dayP day) ((onD (dl rs) known day).leases.take i)
 refine fn_of_run (args := [_, _, _]) 37 Tryz.func68 rfl rfl rfl fun cs => ?_
 have S := Own.start (X := nob) w
 refine r_seq ?_
 refine r_region ?_
 refine l_a rfl ?_
 refine l_nil ?_
 refine r_seq ?_
 refine r_region ?_
 refine l_a rfl ?_
 have S1 := S.nilvec (E := ELZ)
 refine l_nil ?_
 refine r_seq ?_
 refine r_seq ?_
 refine r_region ?_
 refine l_m rfl ?_
 refine l_m rfl ?_
 refine l_m rfl ?_
 refine l_call [] [] [_, _, _] rfl rfl Tryz.call82 rfl (c_on rs vl known day _ (hD.le S1.le)) ?_
 rintro _ w2 ⟨b7, n8, rfl, h6⟩
 have S3 := S1.join h6
 obtain ⟨hs, pf, sf, hok, S4⟩ := Own.rollOpen (A := [_]) S3
 have S5 := S4.pack
 refine l_x rfl (x_nilCheck rfl) ?_
 refine l_x rfl (x_fieldAddr rfl Tryz.runUnderlying96 rfl Tryz.sizeOf92 (by decide)) ?_
 refine l_x rfl (x_load rfl (ld_blk (RollRO.mk hok (S5.ro 1 rfl)).blk Tryz.isAgg92 rfl)) ?_
 refine l_x rfl (x_len (RollRO.mk hok (S5.ro 1 rfl)).lm rfl Tryz.runUnderlying92) ?_
 refine l_m rfl ?_
 refine l_nil ?_
 refine r_block ?_
 refine r_loop (G := Nat × Value) (fun ⟨i, vo⟩ => (onD (dl rs) known day).leases.length - i) (fun ⟨i, vo⟩ => [(2, .int .i64 day), (7, vo), (16, n8.lv), (17, .int .i64 (onD (dl rs) known day).leases.length), (18, .int .i64 i)]) (fun ⟨i, vo⟩ w' => (i ≤ (onD (dl rs) known day).leases.length) ∧ Own nob w w' [vec ELZ vo ((((onD (dl rs) known day).leases.take i).filter (dayP day)).map (·.z)), pack (rollL TY b7 n8 hs (onD (dl rs) known day).leases pf (onD (dl rs) known day).idle sf)]) (0, .slice none 0 0) ⟨rfl, rfl, rfl, rfl, rfl, trivial⟩ ⟨Nat.zero_le _, (S5.take 2)⟩ ?_
 rintro ⟨i, vo⟩ ρ w1 ⟨hi, S1⟩ IH
 refine r_seq ?_
 refine r_region ?_
 refine l_x rfl (x_lss rfl rfl) ?_
 refine l_nil ?_
 refine r_seq ?_
 refine r_ifd rfl (fun hc19 => ?_) (fun hc19 => ?_)
 ·skip
  obtain ⟨x, hx⟩ : ∃ x, (onD (dl rs) known day).leases[i]? = some x := ⟨_, List.getElem?_eq_getElem (by omega)⟩
  refine r_skip ?_
  refine r_seq ?_
  refine r_block ?_
  refine r_seq ?_
  refine r_region ?_
  refine l_index ELS rfl (RollRO.mk hok (S1.ro 1 rfl)).lm rfl rfl Tryz.runUnderlying92 Tryz.sizeOf131 (by omega) hx ?_
  intro b9 o10 hat11 row12
  refine l_x rfl (x_load rfl (ld_row Tryz.isAgg131 Tryz.sizeOf131 rfl row12)) ?_
  refine l_alloc S1 rfl Tryz.zeroValue131 rfl ?_
  intro b16 w13 S14 hl15
  refine l_stores (vs := [_, _, _, _, _, _]) S14 2 rfl rfl rfl rfl (ones_cons rfl (ones_cons rfl (ones_cons rfl (ones_cons rfl (ones_cons rfl (ones_cons rfl ones_nil)))))) Tryz.sizeOf131 (by first | exact Nat.le_refl _ | simp) (splice_all rfl) ?_
  intro w17 S18 hk19
  refine l_nil ?_
  refine r_seq ?_
  refine r_region ?_
  refine l_m rfl ?_
  refine l_x rfl (x_fieldAddr rfl Tryz.runUnderlying131 rfl Tryz.sizeOf3 (by decide)) ?_
  refine l_x rfl (x_load rfl (ld_blk (S18.blk 2 rfl) Tryz.isAgg3 rfl)) ?_
  refine l_x rfl (x_fieldAddr rfl Tryz.runUnderlying131 rfl Tryz.sizeOf84 (by decide)) ?_
  refine l_x rfl (x_fieldAddr rfl Tryz.runUnderlying84 rfl Tryz.sizeOf3 (by decide)) ?_
  refine l_x rfl (x_load rfl (ld_blk (S18.blk 2 rfl) Tryz.isAgg3 rfl)) ?_
  refine l_call [] [] [_, _, _] rfl rfl Tryz.call120 rfl (c_in _ _ _ _) ?_
  rintro _ w20 ⟨rfl, hl22⟩
  have S21 := S18.step hl22
  refine l_nil ?_
  refine r_if rfl (fun hc28 => ?_) (fun hc28 => ?_)
  ·skip
   refine r_region ?_
   refine l_m rfl ?_
   refine l_x rfl (x_fieldAddr rfl Tryz.runUnderlying131 rfl Tryz.sizeOf84 (by decide)) ?_
   refine l_x rfl (x_load rfl (ld_blks (S21.blk 2 rfl) Tryz.isAgg84 Tryz.sizeOf84 rfl rfl)) ?_
   refine l_buildSlice ELZ [x.z] S21 rfl Tryz.runUnderlying78 Tryz.sizeOf84 Tryz.zeroValue84 rfl ⟨rfl, rfl, trivial⟩ (Nat.le_of_ble_eq_true rfl) ?_
   intro v26 w23 S24 hl25
   refine l_append ELZ S24 0 rfl rfl rfl rfl (vec_rd (S24.at 3 rfl)) Tryz.underlying78 info84 rfl rfl rfl (by have := hfl i; rw [List.length_take] at this; unfold maxLen; simp; omega) (by have := hfl i; rw [List.length_take] at this; show _ * 40 ≤ _; simp; omega) ?_
   intro v30 w27 S28 hk29 hv31
   refine l_a rfl ?_
   refine l_nil ?_
   refine r_inBlock ?_
   refine r_region ?_
   refine l_x rfl (x_add rfl rfl (by omega)) ?_
   refine l_m rfl ?_
   refine l_nil ?_
   exact IH (i + 1, v30) _ _ (by dsimp only; omega) ⟨rfl, rfl, rfl, rfl, rfl, trivial⟩ ⟨by omega, (by rw [filter_step hx, if_pos (by simp only [dayP]; first | (simp_all [rng]; done) | (simp_all [rng]; intros; omega))]; rw [List.map_append]; exact S28.take 2)⟩
  refine r_skip ?_
  refine r_inBlock ?_
  refine r_region ?_
  refine l_x rfl (x_add rfl rfl (by omega)) ?_
  refine l_m rfl ?_
  refine l_nil ?_
  exact IH (i + 1, vo) _ _ (by dsimp only; omega) ⟨rfl, rfl, rfl, rfl, rfl, trivial⟩ ⟨by omega, (by rw [filter_step hx, if_neg (by simp only [dayP]; first | (simp_all [rng]; done) | (simp_all [rng]; intros; omega))]; rw [List.append_nil]; exact S21.take 2)⟩
 obtain rfl : i = (onD (dl rs) known day).leases.length := by omega
 refine r_exit rfl ?_
 refine r_seq ?_
 refine r_region ?_
 refine l_m rfl ?_
 refine l_call [] [] [_, _] rfl rfl Tryz.call121 rfl (c_sortedLz _ _ (by have := hfl (onD (dl rs) known day).leases.length; rw [List.length_take] at this; rw [List.length_map]; omega) _ (vec_rd (S1.at 0 rfl))) ?_
 rintro v3632 w32 ⟨l3632, hp3632, hs3632, hN3632, hl3632⟩
 have S33 := S1.add hl3632 hN3632
 refine l_a rfl ?_
 refine l_nil ?_
 refine r_ret (rs := [.tmp 6]) [_] Tryz.func68 rfl ⟨rfl, trivial⟩ ?_
 have hp9 := hp3632
 rw [List.take_length] at hp9
 obtain rfl : l3632 = leasesD (dl rs) known day := lz_of hp9 hs3632
 exact ⟨S33.new 2 rfl, S33.le⟩

end Go.Proofs
