/- Texts joined for claims: M5, M6, M7, M11, M12, M13, M14, M15, M16, M17, M18, M24. -/
import Derived.Test.YtaigapdghhoncaaGreatDoorKefb84aff0c
import Derived.Test.YtaigapdghhoncaaGreatDoorK6d2c2eb465
import Derived.Test.YtaigapdghhoncaaGreatDoorSort
import Derived.Test.YtaigapdghhoncaaGreatDoorKc2c3a9d66c
set_option linter.unusedVariables false
set_option linter.unusedSimpArgs false
set_option linter.unusedSectionVars false
namespace Go.Proofs
open Go Go.Vk Go.Vk.Flow

open Go.Vk.Mark
open Go.Vk.Deed (i64 rng rng_iff owners sumI sumI_cons sumI_snoc)
open Go.Vk.Deed (cmpI)
abbrev bdP (bb : Nat) (vm : Value) (mm : Nat) (g : KSg → Option Int) (b : Sm) (day : Int) : Rsc := pack [blk bb (bdC vm (.map (some mm)) (seenF b)) 108, mapr kSg kInt mm g, vec EMK vm (force b day)]
structure BdK (g : KSg → Option Int) (b : Sm) (day : Int) : Prop where
 hg : ∀ k : KSg, (g k).isSome = true ↔ ∃ m ∈ force b day, m.s = k.1
 ok : checkS b = 0
 dy : dayB day = true
 om : ∀ m ∈ b.marks, MkOk m
theorem bd_of {w : World} {bb : Nat} {vm : Value} {mm : Nat} {g : KSg → Option Int} {b : Sm} {day : Int} (h : RO (bdP bb vm mm g b day) w) (k : BdK g b day) : BdP w bb vm mm g b day :=
 ⟨(h.at 0 rfl).ok, vec_rd (h.at 2 rfl).ok, h.at 1 rfl, k.hg, k.ok, k.dy, k.om⟩

theorem c_isNaN (a : Int) (w : World) :
  Cl Tryz.prog 193 #[Value.int .i64 a] w fun v w' => v = .bool false ∧ Le w w' := by
 refine fn_of_run (args := [_]) 6 Tryz.func193 rfl rfl rfl fun cs => ?_
 have S := Own.start (X := nob) w
 refine r_seq ?_
 refine r_region ?_
 refine l_a rfl ?_
 refine l_nil ?_
 refine r_seq ?_
 refine r_region ?_
 refine l_m rfl ?_
 refine l_m rfl ?_
 refine l_x rfl (x_neq rfl rfl) ?_
 refine l_a rfl ?_
 refine l_nil ?_
 refine r_ret (rs := [.tmp 2]) [_] Tryz.func193 rfl ⟨rfl, trivial⟩ ?_
 exact ⟨congrArg Value.bool (by simp), S.le⟩

theorem c_Compare (a b : Int) (w : World) :
  Cl Tryz.prog 146 #[Value.int .i64 a, Value.int .i64 b] w fun v w' => v = .int .i64 (cmpI a b) ∧ Le w w' := by
 refine fn_of_run (args := [_, _]) 20 Tryz.func146 rfl rfl rfl fun cs => ?_
 have S := Own.start (X := nob) w
 refine r_seq ?_
 refine r_region ?_
 refine l_a rfl ?_
 refine l_nil ?_
 refine r_seq ?_
 refine r_region ?_
 refine l_m rfl ?_
 refine l_call [] [] [_] rfl rfl Tryz.call193 rfl (c_isNaN _ _) ?_
 rintro _ w1 ⟨rfl, hl3⟩
 have S2 := S.step hl3
 refine l_a rfl ?_
 refine l_nil ?_
 refine r_seq ?_
 refine r_region ?_
 refine l_m rfl ?_
 refine l_call [] [] [_] rfl rfl Tryz.call193 rfl (c_isNaN _ _) ?_
 rintro _ w4 ⟨rfl, hl6⟩
 have S5 := S2.step hl6
 refine l_a rfl ?_
 refine l_nil ?_
 refine r_seq ?_
 refine r_seq ?_
 refine r_region ?_
 refine l_m rfl ?_
 refine l_nil ?_
 refine r_false rfl ?_
 refine r_skip ?_
 refine r_seq ?_
 refine r_seq ?_
 refine r_region ?_
 refine l_m rfl ?_
 refine l_nil ?_
 refine r_false rfl ?_
 refine r_skip ?_
 refine r_seq ?_
 refine r_seq ?_
 refine r_region ?_
 refine l_m rfl ?_
 refine l_m rfl ?_
 refine l_x rfl (x_lss rfl rfl) ?_
 refine l_nil ?_
 refine r_ifd rfl (fun hc16 => ?_) (fun hc16 => ?_)
 ·skip
  refine r_seq ?_
  refine r_region ?_
  refine l_a rfl ?_
  refine l_nil ?_
  refine r_ret (rs := [.tmp 4]) [_] Tryz.func146 rfl ⟨rfl, trivial⟩ ?_
  exact ⟨congrArg (Value.int .i64) (by unfold Go.Vk.Deed.cmpI; split <;> (try split) <;> omega), S5.le⟩
 refine r_skip ?_
 refine r_seq ?_
 refine r_seq ?_
 refine r_region ?_
 refine l_m rfl ?_
 refine l_m rfl ?_
 refine l_x rfl (x_gtr rfl rfl) ?_
 refine l_nil ?_
 refine r_ifd rfl (fun hc19 => ?_) (fun hc19 => ?_)
 ·skip
  refine r_seq ?_
  refine r_region ?_
  refine l_a rfl ?_
  refine l_nil ?_
  refine r_ret (rs := [.tmp 4]) [_] Tryz.func146 rfl ⟨rfl, trivial⟩ ?_
  exact ⟨congrArg (Value.int .i64) (by unfold Go.Vk.Deed.cmpI; split <;> (try split) <;> omega), S5.le⟩
 refine r_skip ?_
 refine r_seq ?_
 refine r_region ?_
 refine l_a rfl ?_
 refine l_nil ?_
 refine r_ret (rs := [.tmp 4]) [_] Tryz.func146 rfl ⟨rfl, trivial⟩ ?_
 exact ⟨congrArg (Value.int .i64) (by unfold Go.Vk.Deed.cmpI; split <;> (try split) <;> omega), S5.le⟩

theorem c_opened1 (a b : Mk) (w : World) :
  Cl Tryz.prog 145 #[Value.agg (encMk a).toArray, Value.agg (encMk b).toArray] w fun v w' => v = .int .i64 (cmpI a.owner b.owner) ∧ Le w w' := by
 refine fn_of_run (args := [_, _]) 10 Tryz.func145 rfl rfl rfl fun cs => ?_
 have S := Own.start (X := nob) w
 refine r_seq ?_
 refine r_region ?_
 refine l_box S rfl rfl ?_
 intro b4 w1 S2 hl3
 refine l_box S2 rfl rfl ?_
 intro b8 w5 S6 hl7
 refine l_a rfl ?_
 refine l_nil ?_
 refine r_seq ?_
 refine r_region ?_
 refine l_x rfl (x_fieldAddr rfl Tryz.runUnderlying39 rfl Tryz.sizeOf3 (by decide)) ?_
 refine l_x rfl (x_load rfl (ld_blk (S6.blk 0 rfl) Tryz.isAgg3 rfl)) ?_
 refine l_x rfl (x_fieldAddr rfl Tryz.runUnderlying39 rfl Tryz.sizeOf3 (by decide)) ?_
 refine l_x rfl (x_load rfl (ld_blk (S6.blk 1 rfl) Tryz.isAgg3 rfl)) ?_
 refine l_call [] [] [_, _] rfl rfl Tryz.call146 rfl (c_Compare _ _ _) ?_
 rintro _ w9 ⟨rfl, hl11⟩
 have S10 := S6.step hl11
 refine l_a rfl ?_
 refine l_nil ?_
 refine r_ret (rs := [.tmp 4]) [_] Tryz.func145 rfl ⟨rfl, trivial⟩ ?_
 exact ⟨rfl, S10.le⟩

theorem c_seated1 (a b : Clm) (w : World) :
  Cl Tryz.prog 161 #[Value.agg (encCl a).toArray, Value.agg (encCl b).toArray] w fun v w' => v = .int .i64 (cmpI a.owner b.owner) ∧ Le w w' := by
 refine fn_of_run (args := [_, _]) 10 Tryz.func161 rfl rfl rfl fun cs => ?_
 have S := Own.start (X := nob) w
 refine r_seq ?_
 refine r_region ?_
 refine l_box S rfl rfl ?_
 intro b4 w1 S2 hl3
 refine l_box S2 rfl rfl ?_
 intro b8 w5 S6 hl7
 refine l_a rfl ?_
 refine l_nil ?_
 refine r_seq ?_
 refine r_region ?_
 refine l_x rfl (x_fieldAddr rfl Tryz.runUnderlying83 rfl Tryz.sizeOf3 (by decide)) ?_
 refine l_x rfl (x_load rfl (ld_blk (S6.blk 0 rfl) Tryz.isAgg3 rfl)) ?_
 refine l_x rfl (x_fieldAddr rfl Tryz.runUnderlying83 rfl Tryz.sizeOf3 (by decide)) ?_
 refine l_x rfl (x_load rfl (ld_blk (S6.blk 1 rfl) Tryz.isAgg3 rfl)) ?_
 refine l_call [] [] [_, _] rfl rfl Tryz.call146 rfl (c_Compare _ _ _) ?_
 rintro _ w9 ⟨rfl, hl11⟩
 have S10 := S6.step hl11
 refine l_a rfl ?_
 refine l_nil ?_
 refine r_ret (rs := [.tmp 4]) [_] Tryz.func161 rfl ⟨rfl, trivial⟩ ?_
 exact ⟨rfl, S10.le⟩

theorem c_SortMk (v : Value) (l : List Mk) (w : World) (S : Own (vec EMK v l).fp w w [vec EMK v l]) (hl : l.length < 4611686018427387904) :
  Cl Tryz.prog 144 #[v, .func (.func 145) #[] #[]] w fun _ w' => ∃ l', l'.Perm l ∧ SortedL (fun x y : Mk => cmpI x.owner y.owner) l' ∧ Own (vec EMK v l).fp w w' [vec EMK v l'] :=
 sortK_cl (E := EMK) (cf := (fun x y : Mk => cmpI x.owner y.owner)) (cb := #[]) (g := 145) (fun blk off cap d w hc hH hb hs => AnyQ.slices_SortFunc Tryz.sortMk 9 Tryz.isAgg39 Tryz.sizeOf39 EMK.enc EMK.len EMK.one (fun x y : Mk => cmpI x.owner y.owner) swo_Mk 145 #[] blk off cap d w Tryz.call145 hc hH hb hs) (fun p cap fv w => AnyF.slices_SortFunc_none { Tryz.sortMk with } p cap fv w) (fun x y w1 => by rw [Array.append_empty]; exact c_opened1 x y w1) S hl

theorem c_SortClm (v : Value) (l : List Clm) (w : World) (S : Own (vec ECL v l).fp w w [vec ECL v l]) (hl : l.length < 4611686018427387904) :
  Cl Tryz.prog 201 #[v, .func (.func 161) #[] #[]] w fun _ w' => ∃ l', l'.Perm l ∧ SortedL (fun x y : Clm => cmpI x.owner y.owner) l' ∧ Own (vec ECL v l).fp w w' [vec ECL v l'] :=
 sortK_cl (E := ECL) (cf := (fun x y : Clm => cmpI x.owner y.owner)) (cb := #[]) (g := 161) (fun blk off cap d w hc hH hb hs => AnyQ.slices_SortFunc Tryz.sortClm 2 Tryz.isAgg83 Tryz.sizeOf83 ECL.enc ECL.len ECL.one (fun x y : Clm => cmpI x.owner y.owner) swo_Clm 161 #[] blk off cap d w Tryz.call161 hc hH hb hs) (fun p cap fv w => AnyF.slices_SortFunc_none { Tryz.sortClm with } p cap fv w) (fun x y w1 => by rw [Array.append_empty]; exact c_seated1 x y w1) S hl

set_option maxHeartbeats 4000000 in
theorem c_opened (b : Sm) (vm vf : Value) (day : Int) (right : Bool) (w : World) (hB : SmR 39 41 w vm vf b) :
  Cl Tryz.prog 73 #[.agg #[vm, vf], Value.int .i64 day, .bool right] w fun v w' => (∃ e, e ≠ 0 ∧ v = .tuple #[.pointer none, .int .i64 e] ∧ e = openE b day right ∧ Le w w') ∨ (∃ bb vm mm g, v = .tuple #[.pointer (some ⟨bb, 0, none⟩), Value.int .i64 0] ∧ openE b day right = 0 ∧ BdK g b day ∧ New w w' (bdP bb vm mm g b day) ∧ Le w w') := by
 refine fn_of_run (args := [_, _, _]) 96 Tryz.func73 rfl rfl rfl fun cs => ?_
 have S := Own.start (X := nob) w
 refine r_seq ?_
 refine r_region ?_
 refine l_box S rfl rfl ?_
 intro b4 w1 S2 hl3
 refine l_a rfl ?_
 refine l_a rfl ?_
 refine l_nil ?_
 refine r_seq ?_
 refine r_seq ?_
 refine r_region ?_
 refine l_x rfl (x_load rfl (ld_blks (S2.blk 0 rfl) Tryz.isAgg25 Tryz.sizeOf25 rfl rfl)) ?_
 refine l_call [] [] [_] rfl rfl Tryz.call24 rfl (c_CheckSmits b _ _ _ (hB.le S2.le)) ?_
 rintro _ w5 ⟨rfl, hl7⟩
 have S6 := S2.step hl7
 refine l_a rfl ?_
 refine l_nil ?_
 refine r_seq ?_
 refine r_region ?_
 refine l_m rfl ?_
 refine l_x rfl (x_neq rfl rfl) ?_
 refine l_nil ?_
 refine r_ifd rfl (fun hc18 => ?_) (fun hc18 => ?_)
 ·skip
  refine r_seq ?_
  refine r_region ?_
  refine l_m rfl ?_
  refine l_a rfl ?_
  refine l_a rfl ?_
  refine l_nil ?_
  refine r_ret (rs := [.tmp 6, .tmp 7]) [_, _] Tryz.func73 rfl ⟨rfl, rfl, trivial⟩ ?_
  exact .inl ⟨checkS b, hc18, rfl, openE_bad hc18, S6.le⟩
 have hck : checkS b = 0 := Decidable.not_not.1 hc18
 have hcv := check_valid hck
 refine r_skip ?_
 refine r_seq ?_
 refine r_seq ?_
 refine r_region ?_
 refine l_m rfl ?_
 refine l_call [] [] [_] rfl rfl Tryz.call142 rfl (c_isDay _ _) ?_
 rintro _ w8 ⟨rfl, hl10⟩
 have S9 := S6.step hl10
 refine l_x rfl (x_not rfl) ?_
 refine l_m rfl ?_
 refine l_split (d := 23) rfl (fun hg23 => ?_) (fun hg23 => ?_)
 ·skip
  refine l_pass rfl ?_
  refine l_pass rfl ?_
  refine l_x rfl (x_pick_t rfl rfl) ?_
  refine l_nil ?_
  refine r_true rfl ?_
  refine r_seq ?_
  refine r_region ?_
  refine l_a rfl ?_
  refine l_a rfl ?_
  refine l_nil ?_
  refine r_ret (rs := [.tmp 6, .tmp 7]) [_, _] Tryz.func73 rfl ⟨rfl, rfl, trivial⟩ ?_
  exact .inl ⟨1, by decide, rfl, openE_arg hck (by first | exact .inl (by simpa using hg23) | exact .inr (by simpa using hc26)), S9.le⟩
 refine l_m rfl ?_
 refine l_x rfl (x_not rfl) ?_
 refine l_x rfl (x_pick_f rfl rfl) ?_
 refine l_nil ?_
 refine r_if rfl (fun hc26 => ?_) (fun hc26 => ?_)
 ·skip
  refine r_seq ?_
  refine r_region ?_
  refine l_a rfl ?_
  refine l_a rfl ?_
  refine l_nil ?_
  refine r_ret (rs := [.tmp 6, .tmp 7]) [_, _] Tryz.func73 rfl ⟨rfl, rfl, trivial⟩ ?_
  exact .inl ⟨1, by decide, rfl, openE_arg hck (by first | exact .inl (by simpa using hg23) | exact .inr (by simpa using hc26)), S9.le⟩
 have hrt : right = true := by simpa using hc26
 refine r_skip ?_
 refine r_seq ?_
 refine r_region ?_
 refine l_makeMap kSg kInt S9 rfl ?_
 intro m14 w11 S12 hl13
 refine l_x rfl (x_buildS (out := [_, _, _, _, _, _, _, _, _, _, _, _, _, _, _, _, _, _, _, _, _, _, _, _, _, _, _]) (ss := [1, 1, 25]) Tryz.zeroValue108 rfl Tryz.runUnderlying108 ⟨Tryz.sizeOf22, Tryz.sizeOf104, Tryz.sizeOf106, trivial⟩ (fill_cons rfl rfl rfl (Nat.le_of_ble_eq_true rfl) fill_nil)) ?_
 refine l_box S12 rfl rfl ?_
 intro b18 w15 S16 hl17
 refine l_a rfl ?_
 refine l_nil ?_
 refine r_seq ?_
 refine r_seq ?_
 refine r_region ?_
 have S19 := S16.nilvec (E := EMK)
 refine l_x rfl (x_fieldAddr rfl Tryz.runUnderlying25 rfl Tryz.sizeOf22 (by decide)) ?_
 refine l_x rfl (x_load rfl (ld_blk (S19.blk 0 rfl) Tryz.isAgg22 rfl)) ?_
 refine l_x rfl (x_len (hB.m.le S19.le) rfl Tryz.runUnderlying22) ?_
 refine l_m rfl ?_
 refine l_nil ?_
 refine r_block ?_
 refine r_loop (G := Nat × Value × (KSg → Option Int)) (fun ⟨i, vo, g⟩ => b.marks.length - i) (fun ⟨i, vo, g⟩ => [(1, Value.int .i64 day), (3, .pointer (some ⟨b4, 0, none⟩)), (9, .pointer (some ⟨b18, 0, none⟩)), (31, vm), (32, Value.int .i64 b.marks.length), (33, Value.int .i64 i)]) (fun ⟨i, vo, g⟩ w' => (i ≤ b.marks.length) ∧ (Has (fl b day i) g) ∧ Own nob w w' [blk b4 [vm, vf] 25, mapr kSg kInt m14 g, blk b18 (bdC vo (.map (some m14)) (fun _ => false)) 108, vec EMK vo (fl b day i)]) (0, .slice none 0 0, mnil) ⟨rfl, rfl, rfl, rfl, rfl, rfl, trivial⟩ ⟨Nat.zero_le _, has_nil, (S19.take 4)⟩ ?_
 rintro ⟨i, vo, g⟩ ρ w1 ⟨hi, hg, S1⟩ IH
 refine r_seq ?_
 refine r_region ?_
 refine l_x rfl (x_lss rfl rfl) ?_
 refine l_nil ?_
 refine r_seq ?_
 refine r_ifd rfl (fun hc34 => ?_) (fun hc34 => ?_)
 ·skip
  obtain ⟨a, ha⟩ : ∃ a, b.marks[i]? = some a := ⟨_, List.getElem?_eq_getElem (by omega)⟩
  refine r_skip ?_
  refine r_seq ?_
  refine r_block ?_
  refine r_seq ?_
  refine r_region ?_
  refine l_index EMK rfl (hB.m.le S1.le) rfl rfl Tryz.runUnderlying22 Tryz.sizeOf39 (by omega) ha ?_
  intro b20 o21 hat22 row23
  refine l_x rfl (x_load rfl (ld_row Tryz.isAgg39 Tryz.sizeOf39 rfl row23)) ?_
  refine l_alloc S1 rfl Tryz.zeroValue39 rfl ?_
  intro b27 w24 S25 hl26
  refine l_stores S25 4 rfl rfl rfl rfl (EMK.one _) Tryz.sizeOf39 (by first | exact Nat.le_refl _ | simp) (splice_all rfl) ?_
  intro w28 S29 hk30
  refine l_nil ?_
  refine r_seq ?_
  refine r_region ?_
  refine l_m rfl ?_
  refine l_x rfl (x_fieldAddr rfl Tryz.runUnderlying39 rfl Tryz.sizeOf3 (by decide)) ?_
  refine l_x rfl (x_load rfl (ld_blk (S29.blk 4 rfl) Tryz.isAgg3 rfl)) ?_
  refine l_x rfl (x_fieldAddr rfl Tryz.runUnderlying39 rfl Tryz.sizeOf3 (by decide)) ?_
  refine l_x rfl (x_load rfl (ld_blk (S29.blk 4 rfl) Tryz.isAgg3 rfl)) ?_
  refine l_call [] [] [_, _, _] rfl rfl Tryz.call143 rfl (c_in _ _ _ _) ?_
  rintro _ w31 ⟨rfl, hl33⟩
  have S32 := S29.step hl33
  refine l_nil ?_
  refine r_if rfl (fun hc42 => ?_) (fun hc42 => ?_)
  ·skip
   refine r_seq ?_
   refine r_drawE 8 (Rsc.fp (vec EMK vo (fl b day i))) Tryz.mixed (by kernel_rfl) ?_
   intro w34 hl35
   have S36 := S32.step hl35
   refine e_exact 0 _ (by kernel_rfl) rfl rfl (by kernel_rfl) rfl (ex_x rfl (fun w1 h1 => x_mv rfl)) ?_
   refine e_exact 1 _ (by kernel_rfl) rfl rfl (by kernel_rfl) rfl (ex_x rfl (fun w1 h1 => x_mv rfl)) ?_
   refine e_exact 2 _ (by kernel_rfl) rfl rfl (by kernel_rfl) rfl (ex_x rfl (fun w1 h1 => x_nilCheck rfl)) ?_
   refine e_exact 3 _ (by kernel_rfl) rfl rfl (by kernel_rfl) rfl (ex_x rfl (fun w1 h1 => x_fieldAddr rfl Tryz.runUnderlying108 rfl Tryz.sizeOf22 (by decide))) ?_
   refine e_exact 4 _ (by kernel_rfl) rfl rfl (by kernel_rfl) rfl (ex_x rfl (fun w1 h1 => x_load rfl (ld_blk ((S36.under 3 rfl h1).blk 2 rfl) Tryz.isAgg22 rfl))) ?_
   refine e_exact 5 _ (by kernel_rfl) rfl rfl (by kernel_rfl) rfl (ex_x rfl (fun w1 h1 => x_load rfl (ld_blks ((S36.under 3 rfl h1).blk 4 rfl) Tryz.isAgg39 Tryz.sizeOf39 rfl rfl))) ?_
   refine e_next [6] (by kernel_rfl) (by kernel_rfl) ⟨⟨_, _, rfl, rfl, ?_⟩, trivial⟩
   refine s_buildSlice EMK [a] S36 rfl Tryz.runUnderlying22 Tryz.sizeOf39 Tryz.zeroValue39 rfl ⟨rfl, rfl, trivial⟩ (by decide) ?_
   intro v40 w37 S38 hl39
   refine ⟨.of_le hl39, ?_⟩
   refine e_next [7] (by kernel_rfl) (by kernel_rfl) ⟨⟨_, _, rfl, rfl, ?_⟩, trivial⟩
   refine s_append EMK S38 3 rfl rfl rfl rfl (vec_rd (S38.at 5 rfl)) Tryz.underlying22 info39 rfl rfl rfl (by have := fl_len (b := b) (day := day) (i := i); unfold maxLen; simp; omega) (by have := fl_len (b := b) (day := day) (i := i); show _ * 32 ≤ _; simp; omega) ?_
   intro v44 w41 S42 hk43 hv45
   refine ⟨hk43, ?_⟩
   refine e_done (by kernel_rfl) ?_
   refine l_x rfl (x_nilCheck rfl) ?_
   refine l_x rfl (x_fieldAddr rfl Tryz.runUnderlying108 rfl Tryz.sizeOf22 (by decide)) ?_
   refine l_store (v := v44) S42 2 rfl rfl rfl rfl (Rd.one (vec_rd (S42.at 3 rfl))) Tryz.sizeOf22 (by first | (simp; done) | exact Nat.le_of_ble_eq_true rfl) ?_
   intro w46 S47 hk48
   refine l_nil ?_
   refine r_drawR 8 Tryz.mixed (by kernel_rfl) ?_
   refine w_x rfl (fun w1 h1 => x_mv rfl) ?_
   refine w_x rfl (fun w1 h1 => x_nilCheck rfl) ?_
   refine w_x rfl (fun w1 h1 => x_fieldAddr rfl Tryz.runUnderlying108 rfl Tryz.sizeOf104 (by decide)) ?_
   refine w_x rfl (fun w1 h1 => x_load rfl (ld_blk ((S47.step h1).blk 2 rfl) Tryz.isAgg104 rfl)) ?_
   refine w_x rfl (fun w1 h1 => x_fieldAddr rfl Tryz.runUnderlying39 rfl Tryz.sizeOf28 (by decide)) ?_
   refine w_x rfl (fun w1 h1 => x_load rfl (ld_blks ((S47.step h1).blk 4 rfl) Tryz.isAgg28 Tryz.sizeOf28 rfl rfl)) ?_
   refine w_x rfl (fun w1 h1 => x_fieldAddr rfl Tryz.runUnderlying39 rfl Tryz.sizeOf3 (by decide)) ?_
   refine w_x rfl (fun w1 h1 => x_load rfl (ld_blk ((S47.step h1).blk 4 rfl) Tryz.isAgg3 rfl)) ?_
   refine w_nil ?_
   intro w49 hl50
   have S51 := S47.step hl50
   refine l_mapUpdateA (k0 := ⟨a.s, (hB.om a (List.mem_of_getElem? ha)).s⟩) S51 1 rfl rfl keyA Tryz.runUnderlying104 rfl rfl rfl ?_
   intro w52 S53 hk54
   refine l_nil ?_
   refine r_inBlock ?_
   refine r_region ?_
   refine l_x rfl (x_add rfl rfl (by omega)) ?_
   refine l_m rfl ?_
   refine l_nil ?_
   exact IH (i + 1, v44, mset g ⟨a.s, (hB.om a (List.mem_of_getElem? ha)).s⟩ a.owner) _ _ (by dsimp only; omega) ⟨rfl, rfl, rfl, rfl, rfl, rfl, trivial⟩ ⟨by omega, by rw [fl_yes ha hc42]; exact has_snoc hg _, (by rw [fl_yes ha hc42]; exact S53.take 4)⟩
  refine r_skip ?_
  refine r_inBlock ?_
  refine r_region ?_
  refine l_x rfl (x_add rfl rfl (by omega)) ?_
  refine l_m rfl ?_
  refine l_nil ?_
  exact IH (i + 1, vo, g) _ _ (by dsimp only; omega) ⟨rfl, rfl, rfl, rfl, rfl, rfl, trivial⟩ ⟨by omega, by rw [fl_no ha (by simpa [onDay] using hc42)]; exact hg, (by rw [fl_no ha (by simpa [onDay] using hc42)]; exact S32.take 4)⟩
 obtain rfl : i = b.marks.length := by omega
 refine r_exit rfl ?_
 refine r_seq ?_
 refine r_region ?_
 refine l_m rfl ?_
 refine l_x rfl (x_nilCheck rfl) ?_
 refine l_x rfl (x_fieldAddr rfl Tryz.runUnderlying108 rfl Tryz.sizeOf22 (by decide)) ?_
 refine l_x rfl (x_load rfl (ld_blk (S1.blk 2 rfl) Tryz.isAgg22 rfl)) ?_
 refine l_call [] [] [_, _] rfl rfl Tryz.call144 rfl (c_SortMk _ _ _ (S1.lend 3 rfl) (by have := fl_len (b := b) (day := day) (i := b.marks.length); omega)) ?_
 rintro _ w55 ⟨l', hp', hs', h56⟩
 have S57 := S1.back 3 rfl h56
 have hfo := force_sorted hck (by rw [fl, List.take_length] at hp'; exact hp') (hs'.imp fun h => by rw [lt_Mk] at h; simpa using h)
 have hgf : Has (force b day) g := has_perm hg (hfo ▸ hp')
 rw [hfo] at S57
 refine l_nil ?_
 refine r_seq ?_
 refine r_seq ?_
 refine r_region ?_
 refine l_m rfl ?_
 refine l_nil ?_
 refine r_block ?_
 refine r_loop (G := Nat) (fun i => 5 - i) (fun i => [(1, Value.int .i64 day), (3, .pointer (some ⟨b4, 0, none⟩)), (9, .pointer (some ⟨b18, 0, none⟩)), (67, Value.int .i64 i)]) (fun i w' => (i ≤ 5) ∧ Own nob w w' [blk b4 [vm, vf] 25, mapr kSg kInt m14 g, blk b18 (bdC vo (.map (some m14)) (diagF i)) 108, vec EMK vo (force b day)]) 0 ⟨rfl, rfl, rfl, rfl, trivial⟩ ⟨Nat.zero_le _, (by have h := S57.take 4; rw [bd_congr diag_zero] at h; exact h)⟩ ?_
 rintro i ρ w1b ⟨hi, S1b⟩ IHb
 refine r_seq ?_
 refine r_region ?_
 refine l_x rfl (x_lss rfl rfl) ?_
 refine l_nil ?_
 refine r_seq ?_
 refine r_ifd rfl (fun hc68 => ?_) (fun hc68 => ?_)
 ·skip
  refine r_skip ?_
  refine r_seq ?_
  refine r_block ?_
  refine r_seq ?_
  refine r_region ?_
  refine l_m rfl ?_
  refine l_a rfl ?_
  refine l_nil ?_
  refine r_region ?_
  refine l_m rfl ?_
  refine l_m rfl ?_
  refine l_m rfl ?_
  refine l_x rfl (x_nilCheck rfl) ?_
  refine l_x rfl (x_fieldAddr rfl Tryz.runUnderlying108 rfl Tryz.sizeOf106 (by decide)) ?_
  refine l_x rfl (x_indexAddr_array rfl rfl Tryz.runUnderlying106 Tryz.sizeOf105 (by omega)) ?_
  refine l_x rfl (x_indexAddr_array rfl rfl Tryz.runUnderlying105 Tryz.sizeOf4 (by omega)) ?_
  refine l_storeq S1b 2 rfl rfl rfl rfl rfl Tryz.sizeOf4 (bd_lt (by omega) (by omega)) (bd_set (by omega) (by omega)) ?_
  intro w58 S59 hk60
  refine l_nil ?_
  refine r_inBlock ?_
  refine r_region ?_
  refine l_x rfl (x_add rfl rfl (by omega)) ?_
  refine l_m rfl ?_
  refine l_nil ?_
  exact IHb (i + 1) _ _ (by omega) ⟨rfl, rfl, rfl, rfl, trivial⟩ ⟨by omega, (by have h := S59.take 4; rw [Int.toNat_natCast, bd_congr (diag_step (by omega))] at h; exact h)⟩
 obtain rfl : i = 5 := by omega
 refine r_exit rfl ?_
 refine r_seq ?_
 refine r_seq ?_
 refine r_region ?_
 refine l_x rfl (x_fieldAddr rfl Tryz.runUnderlying25 rfl Tryz.sizeOf23 (by decide)) ?_
 refine l_x rfl (x_load rfl (ld_blk (S1b.blk 0 rfl) Tryz.isAgg23 rfl)) ?_
 refine l_x rfl (x_len (hB.f.le S1b.le) rfl Tryz.runUnderlying23) ?_
 refine l_m rfl ?_
 refine l_nil ?_
 refine r_block ?_
 refine r_loop (G := Nat) (fun i => b.fades.length - i) (fun i => [(1, Value.int .i64 day), (3, .pointer (some ⟨b4, 0, none⟩)), (9, .pointer (some ⟨b18, 0, none⟩)), (79, vf), (80, Value.int .i64 b.fades.length), (81, Value.int .i64 i)]) (fun i w' => (i ≤ b.fades.length) ∧ Own nob w w' [blk b4 [vm, vf] 25, mapr kSg kInt m14 g, blk b18 (bdC vo (.map (some m14)) (fadeF (b.fades.take i))) 108, vec EMK vo (force b day)]) 0 ⟨rfl, rfl, rfl, rfl, rfl, rfl, trivial⟩ ⟨Nat.zero_le _, (by have h := S1b.take 4; rw [bd_congr diag_all] at h; exact h)⟩ ?_
 rintro i ρ w1c ⟨hi, S1c⟩ IHc
 refine r_seq ?_
 refine r_region ?_
 refine l_x rfl (x_lss rfl rfl) ?_
 refine l_nil ?_
 refine r_seq ?_
 refine r_ifd rfl (fun hc82 => ?_) (fun hc82 => ?_)
 ·skip
  obtain ⟨x, hx⟩ : ∃ x, b.fades[i]? = some x := ⟨_, List.getElem?_eq_getElem (by omega)⟩
  have hxm := List.mem_of_getElem? hx
  have hxb := fade_bd (hcv.2.2.1 x hxm) (hB.of x hxm)
  refine r_skip ?_
  refine r_seq ?_
  refine r_block ?_
  refine r_seq ?_
  refine r_region ?_
  refine l_index EFD rfl (hB.f.le S1c.le) rfl rfl Tryz.runUnderlying23 Tryz.sizeOf41 (by omega) hx ?_
  intro b61 o62 hat63 row64
  refine l_x rfl (x_load rfl (ld_row Tryz.isAgg41 Tryz.sizeOf41 rfl row64)) ?_
  refine l_alloc S1c rfl Tryz.zeroValue41 rfl ?_
  intro b68 w65 S66 hl67
  refine l_stores S66 4 rfl rfl rfl rfl (EFD.one _) Tryz.sizeOf41 (by first | exact Nat.le_refl _ | simp) (splice_all rfl) ?_
  intro w69 S70 hk71
  refine l_nil ?_
  refine r_drawR 9 Tryz.mixed (by kernel_rfl) ?_
  refine w_x rfl (fun w1 h1 => x_mv rfl) ?_
  refine w_x rfl (fun w1 h1 => x_fieldAddr rfl Tryz.runUnderlying41 rfl Tryz.sizeOf5 (by decide)) ?_
  refine w_x rfl (fun w1 h1 => x_load rfl (ld_blk ((S70.step h1).blk 4 rfl) Tryz.isAgg5 rfl)) ?_
  refine w_x rfl (fun w1 h1 => x_fieldAddr rfl Tryz.runUnderlying41 rfl Tryz.sizeOf5 (by decide)) ?_
  refine w_x rfl (fun w1 h1 => x_load rfl (ld_blk ((S70.step h1).blk 4 rfl) Tryz.isAgg5 rfl)) ?_
  refine w_x rfl (fun w1 h1 => x_nilCheck rfl) ?_
  refine w_x rfl (fun w1 h1 => x_fieldAddr rfl Tryz.runUnderlying108 rfl Tryz.sizeOf106 (by decide)) ?_
  refine w_x rfl (fun w1 h1 => x_indexAddr_arrayk rfl rfl Tryz.runUnderlying106 Tryz.sizeOf105 (by omega)) ?_
  refine w_x rfl (fun w1 h1 => x_indexAddr_arrayk rfl rfl Tryz.runUnderlying105 Tryz.sizeOf4 (by omega)) ?_
  refine w_nil ?_
  intro w72 hl73
  have S74 := S70.step hl73
  refine l_storeq S74 2 rfl rfl rfl rfl rfl Tryz.sizeOf4 (bd_lt (by omega) (by omega)) (bd_set (by omega) (by omega)) ?_
  intro w75 S76 hk77
  refine l_nil ?_
  refine r_inBlock ?_
  refine r_region ?_
  refine l_x rfl (x_add rfl rfl (by omega)) ?_
  refine l_m rfl ?_
  refine l_nil ?_
  exact IHc (i + 1) _ _ (by omega) ⟨rfl, rfl, rfl, rfl, rfl, rfl, trivial⟩ ⟨by omega, (by have h := S76.take 4; rw [bd_congr (fade_step hxb.1 hxb.2), show b.fades.take i ++ [x] = b.fades.take (i + 1) from by rw [List.take_add_one, hx]; rfl] at h; exact h)⟩
 obtain rfl : i = b.fades.length := by omega
 refine r_exit rfl ?_
 refine r_seq ?_
 refine r_region ?_
 refine l_m rfl ?_
 refine l_a rfl ?_
 refine l_a rfl ?_
 refine l_nil ?_
 refine r_ret (rs := [.tmp 6, .tmp 7]) [_, _] Tryz.func73 rfl ⟨rfl, rfl, trivial⟩ ?_
 exact .inr ⟨_, vo, _, g, rfl, openE_ok hck (by simpa using hg23) hrt, ⟨hgf, hck, by simpa using hg23, hB.om⟩, by have h := ((S1c.pick (L' := [_, _, _]) [2, 1, 3] (by decide) rfl).close).new 0 rfl; rw [List.take_length] at h; exact h, S1c.le⟩

end Go.Proofs

namespace Go.Proofs
open Go Go.Vk Go.Vk.Flow

open Go.Vk.Mark
open Go.Vk.Deed (i64 rng rng_iff owners sumI sumI_cons sumI_snoc)

end Go.Proofs

namespace Go.Proofs
open Go Go.Vk Go.Vk.Flow

open Go.Vk.Mark
open Go.Vk.Deed (i64 rng rng_iff owners sumI sumI_cons sumI_snoc)

set_option maxHeartbeats 2000000 in
theorem c_owners1 (bb : Nat) (vm : Value) (mm : Nat) (g : KSg → Option Int) (b : Sm) (day : Int) (t : Sg) (ht : Sig t) (b1 b2 yl : Nat) (X : Nat → Prop) (u : World) (hB : ∀ wz, Keep X u wz → BdP wz bb vm mm g b day) (h1 : ∀ wz, Keep X u wz → Blk wz b1 [.pointer (some ⟨bb, 0, none⟩)] 100) (h2 : ∀ wz, Keep X u wz → Blk wz b2 (encSg t) 30) (R : List Int → Rsc → Prop)
  (hy : ∀ l r o w1, R l r → (∃ s, ownersOf b day t = l ++ o :: s) → Keep X u w1 → Own r.fp w1 w1 [r] → Yl Tryz.prog yl #[Value.int .i64 o] w1 fun v w2 => ∃ r', v = .bool true ∧ R (l ++ [o]) r' ∧ Own r.fp w1 w2 [r']) (r : Rsc) (hr : R [] r) (w : World) (S : Own X u w [r]) :
  Cl Tryz.prog 173 #[.func (.yield yl) #[] #[], .pointer (some ⟨b1, 0, none⟩), .pointer (some ⟨b2, 0, none⟩)] w fun _ w' => ∃ r', R (ownersOf b day t) r' ∧ Own X u w' [r'] := by
 have hq := hB _ S.keep
 have hfl := force_len (day := day) hq.ok
 refine fn_of_run (args := [_, _, _]) 28 Tryz.func173 rfl rfl rfl fun cs => ?_
 refine r_seq ?_
 refine r_region ?_
 refine l_x rfl (x_load rfl (ld_blk (h1 _ S.keep) Tryz.isAgg100 rfl)) ?_
 refine l_x rfl (x_nilCheck rfl) ?_
 refine l_x rfl (x_fieldAddr rfl Tryz.runUnderlying108 rfl Tryz.sizeOf22 (by decide)) ?_
 refine l_x rfl (x_load rfl (ld_blk ((hB _ S.keep).blk) Tryz.isAgg22 rfl)) ?_
 refine l_x rfl (x_len ((hB _ S.keep).mr) rfl Tryz.runUnderlying22) ?_
 refine l_m rfl ?_
 refine l_nil ?_
 refine r_block ?_
 refine r_loop (G := Nat × Rsc) (fun ⟨i, r1⟩ => (force b day).length - i) (fun ⟨i, r1⟩ => [(0, .func (.yield yl) #[] #[]), (1, .pointer (some ⟨b1, 0, none⟩)), (2, .pointer (some ⟨b2, 0, none⟩)), (9, vm), (11, Value.int .i64 i), (10, Value.int .i64 (force b day).length)]) (fun ⟨i, r1⟩ w' => (i ≤ (force b day).length) ∧ (R (fo b day t i) r1) ∧ Own X u w' [r1]) (0, r) ⟨rfl, rfl, rfl, rfl, rfl, rfl, trivial⟩ ⟨Nat.zero_le _, by rw [fo_zero]; exact hr, (S.take 1)⟩ ?_
 rintro ⟨i, r1⟩ ρ w1 ⟨hi, hR, S1⟩ IH
 refine r_seq ?_
 refine r_region ?_
 refine l_x rfl (x_lss rfl rfl) ?_
 refine l_nil ?_
 refine r_seq ?_
 refine r_ifd rfl (fun hc12 => ?_) (fun hc12 => ?_)
 ·skip
  obtain ⟨a, ha⟩ : ∃ a, (force b day)[i]? = some a := ⟨_, List.getElem?_eq_getElem (by omega)⟩
  refine r_skip ?_
  refine r_seq ?_
  refine r_block ?_
  refine r_seq ?_
  refine r_region ?_
  refine l_index EMK rfl ((hB _ S1.keep).mr) rfl rfl Tryz.runUnderlying22 Tryz.sizeOf39 (by omega) ha ?_
  intro b1 o2 hat3 row4
  refine l_x rfl (x_load rfl (ld_row Tryz.isAgg39 Tryz.sizeOf39 rfl row4)) ?_
  refine l_alloc S1 rfl Tryz.zeroValue39 rfl ?_
  intro b8 w5 S6 hl7
  refine l_stores S6 1 rfl rfl rfl rfl (EMK.one _) Tryz.sizeOf39 (by first | exact Nat.le_refl _ | simp) (splice_all rfl) ?_
  intro w9 S10 hk11
  refine l_nil ?_
  refine r_seq ?_
  refine r_region ?_
  refine l_x rfl (x_load rfl (ld_blk (h1 _ S10.keep) Tryz.isAgg100 rfl)) ?_
  refine l_x rfl (x_load rfl (ld_blks (h2 _ S10.keep) Tryz.isAgg30 Tryz.sizeOf30 rfl rfl)) ?_
  refine l_x rfl (x_fieldAddr rfl Tryz.runUnderlying39 rfl Tryz.sizeOf28 (by decide)) ?_
  refine l_x rfl (x_load rfl (ld_blks (S10.blk 1 rfl) Tryz.isAgg28 Tryz.sizeOf28 rfl rfl)) ?_
  refine l_call [] [] [_, _, _] rfl rfl Tryz.call81 rfl (c_fits bb vm mm g b day t a.s ht (force_clr hq.ok hq.om (List.mem_of_getElem? ha)) _ (hB _ S10.keep)) ?_
  rintro _ w12 ⟨rfl, hl14⟩
  have S13 := S10.step hl14
  refine l_m rfl ?_
  refine l_split (d := 20) rfl (fun hg20 => ?_) (fun hg20 => ?_)
  ·skip
   refine l_m rfl ?_
   refine l_x rfl (x_fieldAddr rfl Tryz.runUnderlying39 rfl Tryz.sizeOf3 (by decide)) ?_
   refine l_x rfl (x_load rfl (ld_blk (S13.blk 1 rfl) Tryz.isAgg3 rfl)) ?_
   refine l_yield [_] rfl rfl rfl (hy (fo b day t i) r1 a.owner _ hR (fo_in ha (by simpa using hg20)) S13.keep (S13.lend 0 rfl)) ?_
   rintro _ w15 ⟨r18, rfl, hRr18, hback16⟩
   have S17 := S13.back 0 rfl hback16
   refine l_x rfl (x_not rfl) ?_
   refine l_x rfl (x_pick_t rfl rfl) ?_
   refine l_nil ?_
   refine r_false rfl ?_
   refine r_skip ?_
   refine r_inBlock ?_
   refine r_region ?_
   refine l_x rfl (x_add rfl rfl (by omega)) ?_
   refine l_m rfl ?_
   refine l_nil ?_
   exact IH (i + 1, r18) _ _ (by dsimp only; omega) ⟨rfl, rfl, rfl, rfl, rfl, rfl, trivial⟩ ⟨by omega, by rw [fo_yes ha (by simpa using hg20)]; exact hRr18, (S17.take 1)⟩
  refine l_pass rfl ?_
  refine l_pass rfl ?_
  refine l_pass rfl ?_
  refine l_pass rfl ?_
  refine l_pass rfl ?_
  refine l_x rfl (x_pick_f rfl rfl) ?_
  refine l_nil ?_
  refine r_false rfl ?_
  refine r_skip ?_
  refine r_inBlock ?_
  refine r_region ?_
  refine l_x rfl (x_add rfl rfl (by omega)) ?_
  refine l_m rfl ?_
  refine l_nil ?_
  exact IH (i + 1, r1) _ _ (by dsimp only; omega) ⟨rfl, rfl, rfl, rfl, rfl, rfl, trivial⟩ ⟨by omega, by rw [fo_no ha (by simpa using hg20)]; exact hR, (S13.take 1)⟩
 have hi : i = (force b day).length := by omega
 subst hi
 rw [fo_all] at hR
 refine r_exit rfl ?_
 refine r_end (rs := []) [] Tryz.func173 rfl trivial ?_
 exact ⟨_, hR, S1⟩

set_option maxHeartbeats 2000000 in
theorem c_AppendSeqO (bb : Nat) (vm : Value) (mm : Nat) (g : KSg → Option Int) (b : Sm) (day : Int) (t : Sg) (ht : Sig t) (b1 b2 : Nat) (w : World) (hR : BdP w bb vm mm g b day) (h1 : Blk w b1 [.pointer (some ⟨bb, 0, none⟩)] 100) (h2 : Blk w b2 (encSg t) 30) :
  Cl Tryz.prog 172 #[.slice none 0 0, .func (.func 173) #[] #[.pointer (some ⟨b1, 0, none⟩), .pointer (some ⟨b2, 0, none⟩)]] w fun v w' => New w w' (vec EI v (ownersOf b day t)) ∧ Le w w' := by
 refine fn_of_run (args := [_, _]) 13 Tryz.func172 rfl rfl rfl fun cs => ?_
 have S := Own.start (X := nob) w
 refine r_seq ?_
 refine r_region ?_
 refine l_box S rfl rfl ?_
 intro b4 w1 S2 hl3
 have S5 := S2.nilvec (E := EI)
 refine l_a rfl ?_
 refine l_nil ?_
 refine r_seq ?_
 refine r_seq ?_
 refine r_region ?_
 refine l_m rfl ?_
 refine l_nil ?_
 refine r_block ?_
 refine r_rangeFunc [] [_, _] S5 rfl rfl Tryz.call173 ?_
 intro D6 l7 w8 S9 hl10
 have S11 : Own _ _ _ [_, _, _, _] := S9.pick [0, 1, 2, 3] (by decide) rfl
 have S12 := Own.pack (A := []) (L := [_, _, _, _]) S11
 refine (c_owners1 bb vm mm g b day t ht b1 b2 _ nob w (fun _ hk => hR.le hk) (fun _ hk => h1.keep hk id) (fun _ hk => h2.keep hk id) (fun l r => ∃ v0, r = pack [blk b4 [v0] 52, vec EI v0 l, _, _]) ?_ _ ⟨_, rfl⟩ _ S12).mono ?_
 ·skip
  rintro l _ a w1 ⟨v0, rfl⟩ ⟨s, hin⟩ hK hS
  have S13 := hS.open
  refine yl_of_run (S13.obj 3 rfl) rfl (fun c cs => ?_)
  refine r_region ?_
  refine l_a rfl ?_
  refine l_nil ?_
  refine r_beginRound S13 3 rfl rfl ?_
  intro w14 S15 hk16
  refine r_block ?_
  refine r_region ?_
  refine l_x rfl (x_load rfl (ld_blk (S15.blk 0 rfl) Tryz.isAgg52 rfl)) ?_
  refine l_m rfl ?_
  refine l_buildSlice EI [a] S15 rfl Tryz.runUnderlying52 Tryz.sizeOf3 Tryz.zeroValue3 rfl ⟨rfl, rfl, trivial⟩ (Nat.le_of_ble_eq_true rfl) ?_
  intro v20 w17 S18 hl19
  refine l_append EI S18 1 rfl rfl rfl rfl (vec_rd (S18.at 4 rfl)) Tryz.underlying52 info3 rfl rfl rfl (by have := pre_len hin; unfold maxLen; rw [List.length_singleton]; omega) (by have := pre_len hin; rw [List.length_singleton]; show _ * 8 ≤ _; omega) ?_
  intro v24 w21 S22 hk23 hv25
  refine l_storeq (c' := [_]) (v := v24) S22 0 rfl rfl rfl rfl (Rd.one (vec_rd (S22.at 1 rfl))) Tryz.sizeOf52 (by first | (simp; done) | exact Nat.le_of_ble_eq_true rfl) rfl ?_
  intro w26 S27 hk28
  refine l_nil ?_
  refine r_inBlock ?_
  refine r_roundEnd S27 3 rfl ?_
  intro w29 S30
  exact ⟨_, rfl, ⟨_, rfl⟩, (S30.take 4).close⟩
 rintro _ w31 ⟨_, ⟨v9, rfl⟩, hback32⟩
 have S33 := Own.unpack (A := []) (L := [_, _, _, _]) hback32
 refine r_endRange S33 3 rfl rfl ?_
 intro w34 S35 hk36
 refine r_inBlock ?_
 refine r_seq ?_
 refine r_region ?_
 refine l_x rfl (x_load rfl (ld_blk (S35.blk 0 rfl) Tryz.isAgg52 rfl)) ?_
 refine l_a rfl ?_
 refine l_nil ?_
 refine r_retL rfl ?_
 refine leave_mark S35 2 rfl ?_
 intro w37 S38 hk39
 refine leave_done (rs := [.tmp 4]) [_] Tryz.func172 rfl ⟨rfl, trivial⟩ ?_
 exact ⟨S38.new 1 rfl, S38.le⟩

theorem c_CollectO (bb : Nat) (vm : Value) (mm : Nat) (g : KSg → Option Int) (b : Sm) (day : Int) (t : Sg) (ht : Sig t) (b1 b2 : Nat) (w : World) (hR : BdP w bb vm mm g b day) (h1 : Blk w b1 [.pointer (some ⟨bb, 0, none⟩)] 100) (h2 : Blk w b2 (encSg t) 30) :
  Cl Tryz.prog 109 #[.func (.func 173) #[] #[.pointer (some ⟨b1, 0, none⟩), .pointer (some ⟨b2, 0, none⟩)]] w fun v w' => New w w' (vec EI v (ownersOf b day t)) ∧ Le w w' := by
 refine fn_of_run (args := [_]) 5 Tryz.func109 rfl rfl rfl fun cs => ?_
 have S := Own.start (X := nob) w
 refine r_seq ?_
 refine r_region ?_
 refine l_a rfl ?_
 refine l_nil ?_
 refine r_seq ?_
 refine r_region ?_
 refine l_m rfl ?_
 refine l_call [] [] [_, _] rfl rfl Tryz.call172 rfl (c_AppendSeqO bb vm mm g b day t ht b1 b2 _ (hR.le S.le) (h1.keep S.le id) (h2.keep S.le id)) ?_
 rintro v41 w1 ⟨hN41, hl41⟩
 have S2 := S.add hl41 hN41
 refine l_a rfl ?_
 refine l_nil ?_
 refine r_ret (rs := [.tmp 2]) [_] Tryz.func109 rfl ⟨rfl, trivial⟩ ?_
 exact ⟨S2.new 0 rfl, S2.le⟩

theorem c_owners (bb : Nat) (vm : Value) (mm : Nat) (g : KSg → Option Int) (b : Sm) (day : Int) (t : Sg) (w : World) (hR : BdP w bb vm mm g b day) :
  Cl Tryz.prog 110 #[.pointer (some ⟨bb, 0, none⟩), Value.agg (encSg t).toArray] w fun v w' => ∃ b1 b2, v = .func (.func 173) #[] #[.pointer (some ⟨b1, 0, none⟩), .pointer (some ⟨b2, 0, none⟩)] ∧ Own nob w w' [blk b1 [.pointer (some ⟨bb, 0, none⟩)] 100, blk b2 (encSg t) 30] := by
 refine fn_of_run (args := [_, _]) 6 Tryz.func110 rfl rfl rfl fun cs => ?_
 have S := Own.start (X := nob) w
 refine r_seq ?_
 refine r_region ?_
 refine l_box S rfl rfl ?_
 intro b4 w1 S2 hl3
 refine l_box S2 rfl rfl ?_
 intro b8 w5 S6 hl7
 refine l_a rfl ?_
 refine l_nil ?_
 refine r_seq ?_
 refine r_region ?_
 refine l_x rfl (x_func rfl rfl) ?_
 refine l_a rfl ?_
 refine l_nil ?_
 refine r_ret (rs := [.tmp 4]) [_] Tryz.func110 rfl ⟨rfl, trivial⟩ ?_
 exact ⟨_, _, rfl, S6⟩

set_option maxHeartbeats 2000000 in
theorem c_Owners (b : Sm) (vm vf : Value) (day : Int) (t : Sg) (ht : SgOk t) (w : World) (hB : SmR 39 41 w vm vf b) :
  Cl Tryz.prog 40 #[.agg #[vm, vf], Value.int .i64 day, Value.agg (encSg t).toArray] w fun v w' => (∃ e, e ≠ 0 ∧ v = .tuple #[.slice none 0 0, .int .i64 e] ∧ e = openE b day (sightB t) ∧ Le w w') ∨ (∃ s, v = .tuple #[s, .int .i64 0] ∧ openE b day (sightB t) = 0 ∧ New w w' (vec EI s (ownersOf b day t)) ∧ Le w w') := by
 refine fn_of_run (args := [_, _, _]) 25 Tryz.func40 rfl rfl rfl fun cs => ?_
 have S := Own.start (X := nob) w
 refine r_seq ?_
 refine r_region ?_
 refine l_box S rfl rfl ?_
 intro b4 w1 S2 hl3
 refine l_box S2 rfl rfl ?_
 intro b8 w5 S6 hl7
 refine l_a rfl ?_
 refine l_a rfl ?_
 refine l_nil ?_
 refine r_seq ?_
 refine r_drawE 9 nob Tryz.mixed (by kernel_rfl) ?_
 intro w9 hl10
 have S11 := S6.step hl10
 refine e_exact 0 _ (by kernel_rfl) rfl rfl (by kernel_rfl) rfl (ex_x rfl (fun w1 h1 => x_load rfl (ld_blks ((S11.step h1).blk 0 rfl) Tryz.isAgg25 Tryz.sizeOf25 rfl rfl))) ?_
 refine e_exact 1 _ (by kernel_rfl) rfl rfl (by kernel_rfl) rfl (ex_x rfl (fun w1 h1 => x_mv rfl)) ?_
 refine e_exact 2 _ (by kernel_rfl) rfl rfl (by kernel_rfl) rfl (ex_x rfl (fun w1 h1 => x_load rfl (ld_blks ((S11.step h1).blk 1 rfl) Tryz.isAgg30 Tryz.sizeOf30 rfl rfl))) ?_
 refine e_next [3] (by kernel_rfl) (by kernel_rfl) ⟨⟨_, _, rfl, rfl, ?_⟩, trivial⟩
 refine s_callf [] [] [_] rfl rfl Tryz.call79 rfl ((c_isSight _ _).mono ?_)
 rintro _ w12 ⟨rfl, hl14⟩
 have S13 := S11.step hl14
 refine ⟨.of_le hl14, ?_⟩
 refine e_next [4] (by kernel_rfl) (by kernel_rfl) ⟨⟨_, _, rfl, rfl, ?_⟩, trivial⟩
 refine s_callf [] [] [_, _, _] rfl rfl Tryz.call73 rfl ((c_opened b vm vf day _ _ (hB.le S13.le)).mono ?_)
 rintro _ w15 (⟨e9, hne9, rfl, he9, hl1515⟩ | ⟨bb9, vm9, mm9, g9, rfl, ho9, hK9, hN1515, hl1515⟩)
 ·skip
  have S16 := S13.step hl1515
  refine ⟨.of_le hl1515, ?_⟩
  refine e_exact 5 _ (by kernel_rfl) rfl rfl (by kernel_rfl) rfl (ex_x rfl (fun w1 h1 => x_mv rfl)) ?_
  refine e_exact 6 _ (by kernel_rfl) rfl rfl (by kernel_rfl) rfl (ex_x rfl (fun w1 h1 => x_extract rfl rfl)) ?_
  refine e_exact 7 _ (by kernel_rfl) rfl rfl (by kernel_rfl) rfl (ex_x rfl (fun w1 h1 => x_extract rfl rfl)) ?_
  refine e_exact 8 _ (by kernel_rfl) rfl rfl (by kernel_rfl) rfl (ex_x rfl (fun w1 h1 => x_as rfl)) ?_
  refine e_done (by kernel_rfl) ?_
  refine l_a rfl ?_
  refine l_nil ?_
  refine r_seq ?_
  refine r_seq ?_
  refine r_region ?_
  refine l_m rfl ?_
  refine l_x rfl (x_neq rfl rfl) ?_
  refine l_nil ?_
  refine r_ifd rfl (fun hc19 => ?_) (fun hc19 => ?_)
  ·skip
   refine r_seq ?_
   refine r_region ?_
   refine l_m rfl ?_
   refine l_a rfl ?_
   refine l_a rfl ?_
   refine l_nil ?_
   refine r_ret (rs := [.tmp 6, .tmp 7]) [_, _] Tryz.func40 rfl ⟨rfl, rfl, trivial⟩ ?_
   exact .inl ⟨e9, hne9, rfl, he9, S16.le⟩
  exact absurd hne9 hc19
 have S17 := S13.add hl1515 hN1515
 refine ⟨.of_le hl1515, ?_⟩
 refine e_exact 5 _ (by kernel_rfl) rfl rfl (by kernel_rfl) rfl (ex_x rfl (fun w1 h1 => x_mv rfl)) ?_
 refine e_exact 6 _ (by kernel_rfl) rfl rfl (by kernel_rfl) rfl (ex_x rfl (fun w1 h1 => x_extract rfl rfl)) ?_
 refine e_exact 7 _ (by kernel_rfl) rfl rfl (by kernel_rfl) rfl (ex_x rfl (fun w1 h1 => x_extract rfl rfl)) ?_
 refine e_exact 8 _ (by kernel_rfl) rfl rfl (by kernel_rfl) rfl (ex_x rfl (fun w1 h1 => x_as rfl)) ?_
 refine e_done (by kernel_rfl) ?_
 refine l_a rfl ?_
 refine l_nil ?_
 refine r_seq ?_
 refine r_seq ?_
 refine r_region ?_
 refine l_m rfl ?_
 refine l_x rfl (x_neq rfl rfl) ?_
 refine l_nil ?_
 refine r_ifd rfl (fun hc19 => ?_) (fun hc19 => ?_)
 ·exact absurd rfl hc19
 refine r_skip ?_
 refine r_seq ?_
 refine r_region ?_
 refine l_m rfl ?_
 refine l_x rfl (x_load rfl (ld_blks (S17.blk 1 rfl) Tryz.isAgg30 Tryz.sizeOf30 rfl rfl)) ?_
 refine l_call [] [] [_, _] rfl rfl Tryz.call110 rfl (c_owners bb9 vm9 mm9 g9 b day t _ (bd_of (S17.ro 2 rfl) hK9)) ?_
 rintro _ w18 ⟨b21, b22, rfl, h20⟩
 have S19 := S17.join h20
 refine l_call [] [] [_] rfl rfl Tryz.call109 rfl (c_CollectO bb9 vm9 mm9 g9 b day t ⟨ht, openE_right ho9⟩ b21 b22 _ (bd_of (S19.ro 2 rfl) hK9) (S19.blk 3 rfl) (S19.blk 4 rfl)) ?_
 rintro v2423 w23 ⟨hN2423, hl2423⟩
 have S24 := S19.add hl2423 hN2423
 refine l_a rfl ?_
 refine l_a rfl ?_
 refine l_nil ?_
 refine r_ret (rs := [.tmp 6, .tmp 7]) [_, _] Tryz.func40 rfl ⟨rfl, rfl, trivial⟩ ?_
 exact .inr ⟨_, rfl, ho9, S24.new 5 rfl, S24.le⟩

end Go.Proofs

namespace Go.Proofs
open Go Go.Vk Go.Vk.Flow

open Go.Vk.Mark
open Go.Vk.Deed (i64 rng rng_iff owners sumI sumI_cons sumI_snoc)

theorem c_found (l : List Sg) (vs : Value) (hm : l.length ≤ 9223372036854775807) (w : World) (hF : Rd ESG w vs l) :
  Cl Tryz.prog 125 #[vs] w fun v w' => v = .int .i64 (foundE l) ∧ Le w w' := by
 refine fn_of_run (args := [_]) 11 Tryz.func125 rfl rfl rfl fun cs => ?_
 have S := Own.start (X := nob) w
 refine r_seq ?_
 refine r_region ?_
 refine l_a rfl ?_
 refine l_nil ?_
 refine r_seq ?_
 refine r_block ?_
 refine r_seq ?_
 refine r_region ?_
 refine l_m rfl ?_
 refine l_x rfl (x_len (hF.le S.le) rfl Tryz.runUnderlying50) ?_
 refine l_x rfl (x_gtr rfl rfl) ?_
 refine l_a rfl ?_
 refine l_nil ?_
 refine r_ifd rfl (fun hc3 => ?_) (fun hc3 => ?_)
 ·skip
  refine r_seq ?_
  refine r_region ?_
  refine l_a rfl ?_
  refine l_nil ?_
  refine r_ret (rs := [.tmp 2]) [_] Tryz.func125 rfl ⟨rfl, trivial⟩ ?_
  exact ⟨congrArg (Value.int .i64) (by first | exact foundE_2 (by omega) | exact foundE_1 (by omega) (by simpa using hc7) | exact foundE_0 (by omega) (by simpa using hc7)), S.le⟩
 refine r_seq ?_
 refine r_region ?_
 refine l_m rfl ?_
 refine l_call [] [] [_, _] rfl rfl Tryz.call179 rfl (c_allS _ l sightB 79 [] hm _ (hF.le S.le) Tryz.call79 (fun x _ w1 _ => c_isSight x w1)) ?_
 rintro _ w1 ⟨rfl, hl3⟩
 have S2 := S.step hl3
 refine l_x rfl (x_not rfl) ?_
 refine l_a rfl ?_
 refine l_nil ?_
 refine r_if rfl (fun hc7 => ?_) (fun hc7 => ?_)
 ·skip
  refine r_seq ?_
  refine r_region ?_
  refine l_a rfl ?_
  refine l_nil ?_
  refine r_ret (rs := [.tmp 2]) [_] Tryz.func125 rfl ⟨rfl, trivial⟩ ?_
  exact ⟨congrArg (Value.int .i64) (by first | exact foundE_2 (by omega) | exact foundE_1 (by omega) (by simpa using hc7) | exact foundE_0 (by omega) (by simpa using hc7)), S2.le⟩
 refine r_skip ?_
 refine r_inBlock ?_
 refine r_seq ?_
 refine r_region ?_
 refine l_a rfl ?_
 refine l_nil ?_
 refine r_ret (rs := [.tmp 2]) [_] Tryz.func125 rfl ⟨rfl, trivial⟩ ?_
 exact ⟨congrArg (Value.int .i64) (by first | exact foundE_2 (by omega) | exact foundE_1 (by omega) (by simpa using hc7) | exact foundE_0 (by omega) (by simpa using hc7)), S2.le⟩

theorem c_isClaims1 (c : Clm) (w : World) :
  Cl Tryz.prog 197 #[Value.agg (encCl c).toArray] w fun v w' => v = .bool (claimB c) ∧ Le w w' := by
 refine fn_of_run (args := [_]) 11 Tryz.func197 rfl rfl rfl fun cs => ?_
 have S := Own.start (X := nob) w
 refine r_seq ?_
 refine r_region ?_
 refine l_box S rfl rfl ?_
 intro b4 w1 S2 hl3
 refine l_a rfl ?_
 refine l_nil ?_
 refine r_seq ?_
 refine r_region ?_
 refine l_x rfl (x_fieldAddr rfl Tryz.runUnderlying83 rfl Tryz.sizeOf3 (by decide)) ?_
 refine l_x rfl (x_load rfl (ld_blk (S2.blk 0 rfl) Tryz.isAgg3 rfl)) ?_
 refine l_call [] [] [_] rfl rfl Tryz.call78 rfl (c_isOwner _ _) ?_
 rintro _ w5 ⟨rfl, hl7⟩
 have S6 := S2.step hl7
 refine l_m rfl ?_
 refine l_split (d := 6) rfl (fun hg6 => ?_) (fun hg6 => ?_)
 ·skip
  refine l_x rfl (x_fieldAddr rfl Tryz.runUnderlying83 rfl Tryz.sizeOf3 (by decide)) ?_
  refine l_x rfl (x_load rfl (ld_blk (S6.blk 0 rfl) Tryz.isAgg3 rfl)) ?_
  refine l_call [] [] [_, _, _] rfl rfl Tryz.call143 rfl (c_in _ _ _ _) ?_
  rintro _ w8 ⟨rfl, hl10⟩
  have S9 := S6.step hl10
  refine l_x rfl (x_pick_t rfl rfl) ?_
  refine l_a rfl ?_
  refine l_nil ?_
  refine r_ret (rs := [.tmp 2]) [_] Tryz.func197 rfl ⟨rfl, trivial⟩ ?_
  exact ⟨congrArg Value.bool (by unfold claimB; simp_all), S9.le⟩
 refine l_pass rfl ?_
 refine l_pass rfl ?_
 refine l_pass rfl ?_
 refine l_x rfl (x_pick_f rfl rfl) ?_
 refine l_a rfl ?_
 refine l_nil ?_
 refine r_ret (rs := [.tmp 2]) [_] Tryz.func197 rfl ⟨rfl, trivial⟩ ?_
 exact ⟨congrArg Value.bool (by unfold claimB; simp_all), S6.le⟩

theorem c_isClaims2 (x y : Clm) (w : World) :
  Cl Tryz.prog 199 #[Value.agg (encCl x).toArray, Value.agg (encCl y).toArray] w fun v w' => v = .bool (sameO x y) ∧ Le w w' := by
 refine fn_of_run (args := [_, _]) 10 Tryz.func199 rfl rfl rfl fun cs => ?_
 have S := Own.start (X := nob) w
 refine r_seq ?_
 refine r_region ?_
 refine l_box S rfl rfl ?_
 intro b4 w1 S2 hl3
 refine l_box S2 rfl rfl ?_
 intro b8 w5 S6 hl7
 refine l_a rfl ?_
 refine l_nil ?_
 refine r_seq ?_
 refine r_region ?_
 refine l_x rfl (x_fieldAddr rfl Tryz.runUnderlying83 rfl Tryz.sizeOf3 (by decide)) ?_
 refine l_x rfl (x_load rfl (ld_blk (S6.blk 0 rfl) Tryz.isAgg3 rfl)) ?_
 refine l_x rfl (x_fieldAddr rfl Tryz.runUnderlying83 rfl Tryz.sizeOf3 (by decide)) ?_
 refine l_x rfl (x_load rfl (ld_blk (S6.blk 1 rfl) Tryz.isAgg3 rfl)) ?_
 refine l_x rfl (x_eql rfl rfl) ?_
 refine l_a rfl ?_
 refine l_nil ?_
 refine r_ret (rs := [.tmp 4]) [_] Tryz.func199 rfl ⟨rfl, trivial⟩ ?_
 exact ⟨rfl, S6.le⟩

theorem c_isClaims (l : List Clm) (vc : Value) (hm : l.length ≤ 9223372036854775807) (w : World) (hC : Rd ECL w vc l) :
  Cl Tryz.prog 158 #[vc] w fun v w' => v = .int .i64 (claimE l) ∧ Le w w' := by
 refine fn_of_run (args := [_]) 14 Tryz.func158 rfl rfl rfl fun cs => ?_
 have S := Own.start (X := nob) w
 refine r_seq ?_
 refine r_region ?_
 refine l_a rfl ?_
 refine l_nil ?_
 refine r_seq ?_
 refine r_block ?_
 refine r_seq ?_
 refine r_region ?_
 refine l_m rfl ?_
 refine l_x rfl (x_len (hC.le S.le) rfl Tryz.runUnderlying51) ?_
 refine l_x rfl (x_gtr rfl rfl) ?_
 refine l_a rfl ?_
 refine l_nil ?_
 refine r_ifd rfl (fun hc3 => ?_) (fun hc3 => ?_)
 ·skip
  refine r_seq ?_
  refine r_region ?_
  refine l_a rfl ?_
  refine l_nil ?_
  refine r_ret (rs := [.tmp 2]) [_] Tryz.func158 rfl ⟨rfl, trivial⟩ ?_
  exact ⟨congrArg (Value.int .i64) (by first | exact claimE_2 (by omega) | exact claimE_1 (by omega) (by simpa using hc7) | exact claimE_6 (by omega) (by simpa using hc7) (by simpa using hc11) | exact claimE_0 (by omega) (by simpa using hc7) (by simpa using hc11)), S.le⟩
 refine r_seq ?_
 refine r_region ?_
 refine l_m rfl ?_
 refine l_call [] [] [_, _] rfl rfl Tryz.call100 rfl (c_allC _ l claimB 197 [] hm _ (hC.le S.le) Tryz.call197 (fun x _ w1 _ => c_isClaims1 x w1)) ?_
 rintro _ w1 ⟨rfl, hl3⟩
 have S2 := S.step hl3
 refine l_x rfl (x_not rfl) ?_
 refine l_a rfl ?_
 refine l_nil ?_
 refine r_if rfl (fun hc7 => ?_) (fun hc7 => ?_)
 ·skip
  refine r_seq ?_
  refine r_region ?_
  refine l_a rfl ?_
  refine l_nil ?_
  refine r_ret (rs := [.tmp 2]) [_] Tryz.func158 rfl ⟨rfl, trivial⟩ ?_
  exact ⟨congrArg (Value.int .i64) (by first | exact claimE_2 (by omega) | exact claimE_1 (by omega) (by simpa using hc7) | exact claimE_6 (by omega) (by simpa using hc7) (by simpa using hc11) | exact claimE_0 (by omega) (by simpa using hc7) (by simpa using hc11)), S2.le⟩
 refine r_seq ?_
 refine r_region ?_
 refine l_m rfl ?_
 refine l_call [] [] [_, _] rfl rfl Tryz.call198 rfl (c_twiceC _ l sameO 199 [] hm _ (hC.le S2.le) Tryz.call199 (fun x hx y hy w1 _ => c_isClaims2 x y w1)) ?_
 rintro _ w4 ⟨rfl, hl6⟩
 have S5 := S2.step hl6
 refine l_a rfl ?_
 refine l_nil ?_
 refine r_if rfl (fun hc11 => ?_) (fun hc11 => ?_)
 ·skip
  refine r_seq ?_
  refine r_region ?_
  refine l_a rfl ?_
  refine l_nil ?_
  refine r_ret (rs := [.tmp 2]) [_] Tryz.func158 rfl ⟨rfl, trivial⟩ ?_
  exact ⟨congrArg (Value.int .i64) (by first | exact claimE_2 (by omega) | exact claimE_1 (by omega) (by simpa using hc7) | exact claimE_6 (by omega) (by simpa using hc7) (by simpa using hc11) | exact claimE_0 (by omega) (by simpa using hc7) (by simpa using hc11)), S5.le⟩
 refine r_skip ?_
 refine r_inBlock ?_
 refine r_seq ?_
 refine r_region ?_
 refine l_a rfl ?_
 refine l_nil ?_
 refine r_ret (rs := [.tmp 2]) [_] Tryz.func158 rfl ⟨rfl, trivial⟩ ?_
 exact ⟨congrArg (Value.int .i64) (by first | exact claimE_2 (by omega) | exact claimE_1 (by omega) (by simpa using hc7) | exact claimE_6 (by omega) (by simpa using hc7) (by simpa using hc11) | exact claimE_0 (by omega) (by simpa using hc7) (by simpa using hc11)), S5.le⟩

theorem c_IndexI (l : List Int) (va : Value) (o : Int) (hm : l.length ≤ 9223372036854775807) (w : World) (hL : Rd EI w va l) :
  Cl Tryz.prog 180 #[va, Value.int .i64 o] w fun v w' => ∃ k : Int, v = .int .i64 k ∧ (0 ≤ k ↔ o ∈ l) ∧ Le w w' := by
 refine fn_of_run (args := [_, _]) 19 Tryz.func180 rfl rfl rfl fun cs => ?_
 have S := Own.start (X := nob) w
 refine r_seq ?_
 refine r_region ?_
 refine l_a rfl ?_
 refine l_nil ?_
 refine r_seq ?_
 refine r_seq ?_
 refine r_region ?_
 refine l_m rfl ?_
 refine l_x rfl (x_len (hL.le S.le) rfl Tryz.runUnderlying52) ?_
 refine l_m rfl ?_
 refine l_nil ?_
 refine r_block ?_
 refine r_loop (G := Nat) (fun i => l.length - i) (fun i => [(0, va), (1, Value.int .i64 o), (6, va), (7, Value.int .i64 l.length), (8, Value.int .i64 i)]) (fun i w' => (i ≤ l.length) ∧ (¬ o ∈ l.take i) ∧ Own nob w w' []) 0 ⟨rfl, rfl, rfl, rfl, rfl, trivial⟩ ⟨Nat.zero_le _, by simp, S⟩ ?_
 rintro i ρ w1 ⟨hi, hno, S1⟩ IH
 refine r_seq ?_
 refine r_region ?_
 refine l_x rfl (x_lss rfl rfl) ?_
 refine l_nil ?_
 refine r_seq ?_
 refine r_ifd rfl (fun hc9 => ?_) (fun hc9 => ?_)
 ·skip
  obtain ⟨x, hx⟩ : ∃ x, l[i]? = some x := ⟨_, List.getElem?_eq_getElem (by omega)⟩
  refine r_skip ?_
  refine r_seq ?_
  refine r_block ?_
  refine r_seq ?_
  refine r_region ?_
  refine l_m rfl ?_
  refine l_a rfl ?_
  refine l_nil ?_
  refine r_seq ?_
  refine r_region ?_
  refine l_m rfl ?_
  refine l_m rfl ?_
  refine l_m rfl ?_
  refine l_index EI rfl (hL.le S1.le) rfl rfl Tryz.runUnderlying52 Tryz.sizeOf3 (by omega) hx ?_
  intro b1 o2 hat3 row4
  refine l_x rfl (x_load rfl (ld_cell Tryz.isAgg3 (row4 0 _ rfl))) ?_
  refine l_x rfl (x_eql rfl rfl) ?_
  refine l_nil ?_
  refine r_ifd rfl (fun hc16 => ?_) (fun hc16 => ?_)
  ·skip
   refine r_seq ?_
   refine r_region ?_
   refine l_m rfl ?_
   refine l_a rfl ?_
   refine l_nil ?_
   refine r_ret (rs := [.tmp 4]) [_] Tryz.func180 rfl ⟨rfl, trivial⟩ ?_
   exact ⟨_, rfl, ⟨fun _ => by rw [hc16]; exact List.mem_of_getElem? hx, fun _ => by omega⟩, S1.le⟩
  refine r_skip ?_
  refine r_inBlock ?_
  refine r_region ?_
  refine l_x rfl (x_add rfl rfl (by omega)) ?_
  refine l_m rfl ?_
  refine l_nil ?_
  exact IH (i + 1) _ _ (by omega) ⟨rfl, rfl, rfl, rfl, rfl, trivial⟩ ⟨by omega, not_take9 hno hx hc16, S1⟩
 obtain rfl : i = l.length := by omega
 rw [List.take_length] at hno
 refine r_exit rfl ?_
 refine r_seq ?_
 refine r_region ?_
 refine l_a rfl ?_
 refine l_nil ?_
 refine r_ret (rs := [.tmp 4]) [_] Tryz.func180 rfl ⟨rfl, trivial⟩ ?_
 exact ⟨_, rfl, ⟨fun h => absurd h (by decide), fun h => absurd h hno⟩, S1.le⟩

theorem c_ContainsI (l : List Int) (va : Value) (o : Int) (hm : l.length ≤ 9223372036854775807) (w : World) (hL : Rd EI w va l) :
  Cl Tryz.prog 126 #[va, Value.int .i64 o] w fun v w' => v = .bool (decide (o ∈ l)) ∧ Le w w' := by
 refine fn_of_run (args := [_, _]) 9 Tryz.func126 rfl rfl rfl fun cs => ?_
 have S := Own.start (X := nob) w
 refine r_seq ?_
 refine r_region ?_
 refine l_a rfl ?_
 refine l_nil ?_
 refine r_seq ?_
 refine r_region ?_
 refine l_m rfl ?_
 refine l_m rfl ?_
 refine l_call [] [] [_, _] rfl rfl Tryz.call180 rfl (c_IndexI l _ o hm _ (hL.le S.le)) ?_
 rintro _ w1 ⟨k9, rfl, hk9, hl71⟩
 have S2 := S.step hl71
 refine l_x rfl (x_geq rfl rfl) ?_
 refine l_a rfl ?_
 refine l_nil ?_
 refine r_ret (rs := [.tmp 4]) [_] Tryz.func126 rfl ⟨rfl, trivial⟩ ?_
 exact ⟨congrArg Value.bool (decide_eq_decide.2 hk9), S2.le⟩

set_option maxHeartbeats 2000000 in
theorem c_Range (b : Sm) (vm vf : Value) (day : Int) (l : List Sg) (vs : Value) (o : Int) (hm : l.length ≤ 9223372036854775807) (hs : ∀ t ∈ l, SgOk t) (w : World) (hB : SmR 39 41 w vm vf b) (hF : Rd ESG w vs l) :
  Cl Tryz.prog 58 #[.agg #[vm, vf], Value.int .i64 day, vs, Value.int .i64 o] w fun v w' => (∃ e, e ≠ 0 ∧ v = .tuple #[.int .i64 0, .int .i64 0, .int .i64 e] ∧ e = rgE b day l o ∧ Le w w') ∨ (v = .tuple #[.int .i64 (sureN b day l o), .int .i64 (perhapsN b day l o), .int .i64 0] ∧ rgE b day l o = 0 ∧ Le w w') := by
 refine fn_of_run (args := [_, _, _, _]) 56 Tryz.func58 rfl rfl rfl fun cs => ?_
 have S := Own.start (X := nob) w
 refine r_seq ?_
 refine r_region ?_
 refine l_box S rfl rfl ?_
 intro b4 w1 S2 hl3
 refine l_a rfl ?_
 refine l_a rfl ?_
 refine l_a rfl ?_
 refine l_nil ?_
 refine r_seq ?_
 refine r_drawE 9 nob Tryz.mixed (by kernel_rfl) ?_
 intro w5 hl6
 have S7 := S2.step hl6
 refine e_exact 0 _ (by kernel_rfl) rfl rfl (by kernel_rfl) rfl (ex_x rfl (fun w1 h1 => x_load rfl (ld_blks ((S7.step h1).blk 0 rfl) Tryz.isAgg25 Tryz.sizeOf25 rfl rfl))) ?_
 refine e_exact 1 _ (by kernel_rfl) rfl rfl (by kernel_rfl) rfl (ex_x rfl (fun w1 h1 => x_mv rfl)) ?_
 refine e_exact 2 _ (by kernel_rfl) rfl rfl (by kernel_rfl) rfl (ex_x rfl (fun w1 h1 => x_mv rfl)) ?_
 refine e_next [3] (by kernel_rfl) (by kernel_rfl) ⟨⟨_, _, rfl, rfl, ?_⟩, trivial⟩
 refine s_callf [] [] [_] rfl rfl Tryz.call78 rfl ((c_isOwner _ _).mono ?_)
 rintro _ w8 ⟨rfl, hl10⟩
 have S9 := S7.step hl10
 refine ⟨.of_le hl10, ?_⟩
 refine e_next [4] (by kernel_rfl) (by kernel_rfl) ⟨⟨_, _, rfl, rfl, ?_⟩, trivial⟩
 refine s_callf [] [] [_, _, _] rfl rfl Tryz.call73 rfl ((c_opened b vm vf day _ _ (hB.le S9.le)).mono ?_)
 rintro _ w11 (⟨e9, hne9, rfl, he9, hl2011⟩ | ⟨bb9, vm9, mm9, g9, rfl, ho9, hK9, hN2011, hl2011⟩)
 ·skip
  have S12 := S9.step hl2011
  refine ⟨.of_le hl2011, ?_⟩
  refine e_exact 5 _ (by kernel_rfl) rfl rfl (by kernel_rfl) rfl (ex_x rfl (fun w1 h1 => x_mv rfl)) ?_
  refine e_exact 6 _ (by kernel_rfl) rfl rfl (by kernel_rfl) rfl (ex_x rfl (fun w1 h1 => x_extract rfl rfl)) ?_
  refine e_exact 7 _ (by kernel_rfl) rfl rfl (by kernel_rfl) rfl (ex_x rfl (fun w1 h1 => x_extract rfl rfl)) ?_
  refine e_exact 8 _ (by kernel_rfl) rfl rfl (by kernel_rfl) rfl (ex_x rfl (fun w1 h1 => x_as rfl)) ?_
  refine e_done (by kernel_rfl) ?_
  refine l_a rfl ?_
  refine l_nil ?_
  refine r_seq ?_
  refine r_seq ?_
  refine r_region ?_
  refine l_m rfl ?_
  refine l_x rfl (x_eql rfl rfl) ?_
  refine l_nil ?_
  refine r_ifd rfl (fun hc24 => ?_) (fun hc24 => ?_)
  ·exact absurd hc24 hne9
  refine r_skip ?_
  refine r_seq ?_
  refine r_seq ?_
  refine r_region ?_
  refine l_m rfl ?_
  refine l_x rfl (x_neq rfl rfl) ?_
  refine l_nil ?_
  refine r_ifd rfl (fun hc28 => ?_) (fun hc28 => ?_)
  ·skip
   refine r_seq ?_
   refine r_region ?_
   refine l_m rfl ?_
   refine l_a rfl ?_
   refine l_a rfl ?_
   refine l_a rfl ?_
   refine l_nil ?_
   refine r_ret (rs := [.tmp 8, .tmp 9, .tmp 10]) [_, _, _] Tryz.func58 rfl ⟨rfl, rfl, rfl, trivial⟩ ?_
   exact .inl ⟨e9, hne9, rfl, rgE_bad hne9 he9, S12.le⟩
  exact absurd hne9 hc28
 have S13 := S9.add hl2011 hN2011
 refine ⟨.of_le hl2011, ?_⟩
 refine e_exact 5 _ (by kernel_rfl) rfl rfl (by kernel_rfl) rfl (ex_x rfl (fun w1 h1 => x_mv rfl)) ?_
 refine e_exact 6 _ (by kernel_rfl) rfl rfl (by kernel_rfl) rfl (ex_x rfl (fun w1 h1 => x_extract rfl rfl)) ?_
 refine e_exact 7 _ (by kernel_rfl) rfl rfl (by kernel_rfl) rfl (ex_x rfl (fun w1 h1 => x_extract rfl rfl)) ?_
 refine e_exact 8 _ (by kernel_rfl) rfl rfl (by kernel_rfl) rfl (ex_x rfl (fun w1 h1 => x_as rfl)) ?_
 refine e_done (by kernel_rfl) ?_
 refine l_a rfl ?_
 refine l_nil ?_
 refine r_seq ?_
 refine r_seq ?_
 refine r_region ?_
 refine l_m rfl ?_
 refine l_x rfl (x_eql rfl rfl) ?_
 refine l_nil ?_
 refine r_ifd rfl (fun hc24 => ?_) (fun hc24 => ?_)
 ·skip
  refine r_region ?_
  refine l_m rfl ?_
  refine l_call [] [] [_] rfl rfl Tryz.call125 rfl (c_found l vs hm _ (hF.le S13.le)) ?_
  rintro _ w14 ⟨rfl, hl16⟩
  have S15 := S13.step hl16
  refine l_a rfl ?_
  refine l_nil ?_
  refine r_seq ?_
  refine r_seq ?_
  refine r_region ?_
  refine l_m rfl ?_
  refine l_x rfl (x_neq rfl rfl) ?_
  refine l_nil ?_
  refine r_ifd rfl (fun hc28 => ?_) (fun hc28 => ?_)
  ·skip
   refine r_seq ?_
   refine r_region ?_
   refine l_m rfl ?_
   refine l_a rfl ?_
   refine l_a rfl ?_
   refine l_a rfl ?_
   refine l_nil ?_
   refine r_ret (rs := [.tmp 8, .tmp 9, .tmp 10]) [_, _, _] Tryz.func58 rfl ⟨rfl, rfl, rfl, trivial⟩ ?_
   exact .inl ⟨foundE l, hc28, rfl, rgE_ok ho9, S15.le⟩
  have hf0 : foundE l = 0 := Decidable.not_not.1 hc28
  have hfo := found_ok hf0
  have hor := openE_right ho9
  refine r_skip ?_
  refine r_seq ?_
  refine r_seq ?_
  refine r_region ?_
  refine l_m rfl ?_
  refine l_x rfl (x_len (hF.le S15.le) rfl Tryz.runUnderlying50) ?_
  refine l_m rfl ?_
  refine l_nil ?_
  refine r_block ?_
  refine r_loop (G := Nat) (fun i => l.length - i) (fun i => [(2, vs), (3, Value.int .i64 o), (11, .pointer (some ⟨bb9, 0, none⟩)), (8, Value.int .i64 (sureN b day (l.take i) o)), (9, Value.int .i64 (perhapsN b day (l.take i) o)), (30, vs), (31, Value.int .i64 l.length), (32, Value.int .i64 i)]) (fun i w' => (i ≤ l.length) ∧ Own nob w w' [bdP bb9 vm9 mm9 g9 b day]) 0 ⟨rfl, rfl, rfl, rfl, rfl, rfl, rfl, rfl, trivial⟩ ⟨Nat.zero_le _, (S15.pick [1] (by decide) rfl)⟩ ?_
  rintro i ρ w1 ⟨hi, S1⟩ IH
  refine r_seq ?_
  refine r_region ?_
  refine l_x rfl (x_lss rfl rfl) ?_
  refine l_nil ?_
  refine r_seq ?_
  refine r_ifd rfl (fun hc33 => ?_) (fun hc33 => ?_)
  ·skip
   obtain ⟨t, hx⟩ : ∃ t, l[i]? = some t := ⟨_, List.getElem?_eq_getElem (by omega)⟩
   have htm := List.mem_of_getElem? hx
   have hsb := sure_bd (b := b) (day := day) (o := o) (l := l) (i := i)
   refine r_skip ?_
   refine r_seq ?_
   refine r_block ?_
   refine r_seq ?_
   refine r_region ?_
   refine l_index ESG rfl (hF.le S1.le) rfl rfl Tryz.runUnderlying50 Tryz.sizeOf30 (by omega) hx ?_
   intro b17 o18 hat19 row20
   refine l_x rfl (x_load rfl (ld_row Tryz.isAgg30 Tryz.sizeOf30 rfl row20)) ?_
   refine l_alloc S1 rfl Tryz.zeroValue30 rfl ?_
   intro b24 w21 S22 hl23
   refine l_stores S22 1 rfl rfl rfl rfl (ESG.one _) Tryz.sizeOf30 (by first | exact Nat.le_refl _ | simp) (splice_all rfl) ?_
   intro w25 S26 hk27
   refine l_nil ?_
   refine r_seq ?_
   refine r_region ?_
   refine l_m rfl ?_
   refine l_x rfl (x_load rfl (ld_blks (S26.blk 1 rfl) Tryz.isAgg30 Tryz.sizeOf30 rfl rfl)) ?_
   refine l_call [] [] [_, _] rfl rfl Tryz.call110 rfl (c_owners bb9 vm9 mm9 g9 b day t _ (bd_of (S26.ro 0 rfl) hK9)) ?_
   rintro _ w28 ⟨b31, b32, rfl, h30⟩
   have S29 := S26.join h30
   refine l_call [] [] [_] rfl rfl Tryz.call109 rfl (c_CollectO bb9 vm9 mm9 g9 b day t ⟨hs t htm, hfo.2 t htm⟩ b31 b32 _ (bd_of (S29.ro 0 rfl) hK9) (S29.blk 2 rfl) (S29.blk 3 rfl)) ?_
   rintro v3933 w33 ⟨hN3933, hl3933⟩
   have S34 := S29.add hl3933 hN3933
   refine l_a rfl ?_
   refine l_nil ?_
   refine r_block ?_
   refine r_seq ?_
   refine r_region ?_
   refine l_m rfl ?_
   refine l_m rfl ?_
   refine l_call [] [] [_, _] rfl rfl Tryz.call126 rfl (c_ContainsI (ownersOf b day t) _ o (by have := ownersOf_len (b := b) (day := day) (t := t); omega) _ (vec_rd (S34.at 4 rfl))) ?_
   rintro _ w35 ⟨rfl, hl37⟩
   have S36 := S34.step hl37
   refine l_x rfl (x_not rfl) ?_
   refine l_a rfl ?_
   refine l_nil ?_
   refine r_if rfl (fun hc42 => ?_) (fun hc42 => ?_)
   ·skip
    refine r_skip ?_
    refine r_inBlock ?_
    refine r_inBlock ?_
    refine r_region ?_
    refine l_x rfl (x_add rfl rfl (by omega)) ?_
    refine l_m rfl ?_
    refine l_nil ?_
    exact IH (i + 1) _ _ (by omega) ⟨rfl, rfl, rfl, (congrArg (Value.int .i64) (sure_no hx (by simpa using hc42) hor).1.symm), (congrArg (Value.int .i64) (sure_no hx (by simpa using hc42) hor).2.symm), rfl, rfl, rfl, trivial⟩ ⟨by omega, (S36.take 1)⟩
   refine r_seq ?_
   refine r_region ?_
   refine l_m rfl ?_
   refine l_x rfl (x_len (vec_rd (S36.at 4 rfl)) rfl Tryz.runUnderlying52) ?_
   refine l_x rfl (x_eql rfl rfl) ?_
   refine l_a rfl ?_
   refine l_nil ?_
   refine r_ifd rfl (fun hc47 => ?_) (fun hc47 => ?_)
   ·skip
    refine r_region ?_
    refine l_m rfl ?_
    refine l_x rfl (x_add rfl rfl (by omega)) ?_
    refine l_a rfl ?_
    refine l_nil ?_
    refine r_inBlock ?_
    refine r_inBlock ?_
    refine r_region ?_
    refine l_x rfl (x_add rfl rfl (by omega)) ?_
    refine l_m rfl ?_
    refine l_nil ?_
    exact IH (i + 1) _ _ (by omega) ⟨rfl, rfl, rfl, (congrArg (Value.int .i64) (sure_yes hx (by simpa using hc42) (by omega) hor).1.symm), (congrArg (Value.int .i64) (sure_yes hx (by simpa using hc42) (by omega) hor).2.symm), rfl, rfl, rfl, trivial⟩ ⟨by omega, (S36.take 1)⟩
   refine r_region ?_
   refine l_m rfl ?_
   refine l_x rfl (x_add rfl rfl (by omega)) ?_
   refine l_a rfl ?_
   refine l_nil ?_
   refine r_inBlock ?_
   refine r_inBlock ?_
   refine r_region ?_
   refine l_x rfl (x_add rfl rfl (by omega)) ?_
   refine l_m rfl ?_
   refine l_nil ?_
   exact IH (i + 1) _ _ (by omega) ⟨rfl, rfl, rfl, (congrArg (Value.int .i64) (sure_maybe hx (by simpa using hc42) (by omega) hor).1.symm), (congrArg (Value.int .i64) (sure_maybe hx (by simpa using hc42) (by omega) hor).2.symm), rfl, rfl, rfl, trivial⟩ ⟨by omega, (S36.take 1)⟩
  obtain rfl : i = l.length := by omega
  refine r_exit rfl ?_
  refine r_seq ?_
  refine r_region ?_
  refine l_m rfl ?_
  refine l_m rfl ?_
  refine l_a rfl ?_
  refine l_a rfl ?_
  refine l_a rfl ?_
  refine l_nil ?_
  refine r_ret (rs := [.tmp 8, .tmp 9, .tmp 10]) [_, _, _] Tryz.func58 rfl ⟨rfl, rfl, rfl, trivial⟩ ?_
  exact .inr ⟨by rw [List.take_length]; rfl, (rgE_ok ho9).symm.trans hf0, S1.le⟩
 exact absurd rfl hc24

end Go.Proofs

namespace Go.Proofs
open Go Go.Vk Go.Vk.Flow

open Go.Vk.Mark
open Go.Vk.Deed (i64 rng rng_iff owners sumI sumI_cons sumI_snoc)
abbrev EUK := u16E 138
abbrev BnP := @BnR 130 83 138 3

theorem c_needs (bb : Nat) (vc vu vn : Value) (cz : List Clm) (ms : List Nat) (cn : List Int) (s : Nat) (hs : s < 1024) (hl : cz.length ≤ 10) (hcb : ∀ c ∈ cz, 0 ≤ c.number ∧ c.number ≤ 60) (w : World) (hN : BnP w bb vc vu vn cz ms cn) :
  Cl Tryz.prog 175 #[.pointer (some ⟨bb, 0, none⟩), Value.int .u16 ((s : Nat) : Int)] w fun v w' => v = .int .i64 (needN cz s) ∧ Le w w' := by
 refine fn_of_run (args := [_, _]) 29 Tryz.func175 rfl rfl rfl fun cs => ?_
 have S := Own.start (X := nob) w
 refine r_seq ?_
 refine r_region ?_
 refine l_a rfl ?_
 refine l_nil ?_
 refine r_seq ?_
 refine r_region ?_
 refine l_a rfl ?_
 refine l_nil ?_
 refine r_seq ?_
 refine r_seq ?_
 refine r_region ?_
 refine l_m rfl ?_
 refine l_x rfl (x_nilCheck rfl) ?_
 refine l_x rfl (x_fieldAddr rfl Tryz.runUnderlying130 rfl Tryz.sizeOf51 (by decide)) ?_
 refine l_x rfl (x_load rfl (ld_blk (hN.blk.keep S.le id) Tryz.isAgg51 rfl)) ?_
 refine l_x rfl (x_len (hN.rc.le S.le) rfl Tryz.runUnderlying51) ?_
 refine l_m rfl ?_
 refine l_nil ?_
 refine r_block ?_
 refine r_loop (G := Nat) (fun i => cz.length - i) (fun i => [(1, Value.int .u16 ((s : Nat) : Int)), (5, Value.int .i64 (needP cz s i)), (11, vc), (12, Value.int .i64 cz.length), (13, Value.int .i64 i)]) (fun i w' => (i ≤ cz.length) ∧ Own nob w w' []) 0 ⟨rfl, rfl, rfl, rfl, rfl, trivial⟩ ⟨Nat.zero_le _, (S.take 0)⟩ ?_
 rintro i ρ w1 ⟨hi, S1⟩ IH
 refine r_seq ?_
 refine r_region ?_
 refine l_x rfl (x_lss rfl rfl) ?_
 refine l_nil ?_
 refine r_seq ?_
 refine r_ifd rfl (fun hc14 => ?_) (fun hc14 => ?_)
 ·skip
  obtain ⟨c, hc⟩ : ∃ c, cz[i]? = some c := ⟨_, List.getElem?_eq_getElem (by omega)⟩
  have hnb := need_bd (cs := cz) (s := s) (i := i) hcb
  have hcc := hcb c (List.mem_of_getElem? hc)
  refine r_skip ?_
  refine r_seq ?_
  refine r_block ?_
  refine r_seq ?_
  refine r_region ?_
  refine l_m rfl ?_
  refine l_index ECL rfl (hN.rc.le S1.le) rfl rfl Tryz.runUnderlying51 Tryz.sizeOf83 (by omega) hc ?_
  intro b1 o2 hat3 row4
  refine l_x rfl (x_load rfl (ld_row Tryz.isAgg83 Tryz.sizeOf83 rfl row4)) ?_
  refine l_alloc S1 rfl Tryz.zeroValue83 rfl ?_
  intro b8 w5 S6 hl7
  refine l_a rfl ?_
  refine l_stores S6 0 rfl rfl rfl rfl (ECL.one _) Tryz.sizeOf83 (by first | exact Nat.le_refl _ | simp) (splice_all rfl) ?_
  intro w9 S10 hk11
  refine l_nil ?_
  refine r_seq ?_
  refine r_region ?_
  refine l_m rfl ?_
  refine l_m rfl ?_
  refine l_x rfl (x_shr (a := s) (n := i) rfl rfl (show i ≤ 16 by omega)) ?_
  refine l_x rfl (x_and (a := (s / 2 ^ i)) (c := 1) rfl rfl (show (s / 2 ^ i) < 32768 from Nat.lt_of_le_of_lt (Nat.div_le_self _ _) (by omega)) (show 1 < 32768 by decide)) ?_
  refine l_x rfl (x_eql rfl rfl) ?_
  refine l_nil ?_
  refine r_ifd rfl (fun hc22 => ?_) (fun hc22 => ?_)
  ·skip
   refine r_region ?_
   refine l_m rfl ?_
   refine l_x rfl (x_fieldAddr rfl Tryz.runUnderlying83 rfl Tryz.sizeOf3 (by decide)) ?_
   refine l_x rfl (x_load rfl (ld_blk (S10.blk 0 rfl) Tryz.isAgg3 rfl)) ?_
   refine l_x rfl (x_add rfl rfl (by omega)) ?_
   refine l_a rfl ?_
   refine l_nil ?_
   refine r_inBlock ?_
   refine r_region ?_
   refine l_x rfl (x_add rfl rfl (by omega)) ?_
   refine l_m rfl ?_
   refine l_nil ?_
   exact IH (i + 1) _ _ (by omega) ⟨rfl, (congrArg (Value.int .i64) (need_yes hc (bit_and.1 hc22))), rfl, rfl, rfl, trivial⟩ ⟨by omega, (S10.take 0)⟩
  refine r_skip ?_
  refine r_inBlock ?_
  refine r_region ?_
  refine l_x rfl (x_add rfl rfl (by omega)) ?_
  refine l_m rfl ?_
  refine l_nil ?_
  exact IH (i + 1) _ _ (by omega) ⟨rfl, (congrArg (Value.int .i64) (need_no (by simpa using mt bit_and.2 hc22))), rfl, rfl, rfl, trivial⟩ ⟨by omega, (S10.take 0)⟩
 obtain rfl : i = cz.length := by omega
 refine r_exit rfl ?_
 refine r_seq ?_
 refine r_region ?_
 refine l_m rfl ?_
 refine l_a rfl ?_
 refine l_nil ?_
 refine r_ret (rs := [.tmp 4]) [_] Tryz.func175 rfl ⟨rfl, trivial⟩ ?_
 exact ⟨rfl, S1.le⟩

theorem c_benchOwners (bb : Nat) (vc vu vn : Value) (cz : List Clm) (ms : List Nat) (cn : List Int) (s : Nat) (hs : s < 1024) (hl : cz.length ≤ 10) (w : World) (hN : BnP w bb vc vu vn cz ms cn) :
  Cl Tryz.prog 114 #[.pointer (some ⟨bb, 0, none⟩), Value.int .u16 ((s : Nat) : Int)] w fun v w' => New w w' (vec EI v (lsP cz s cz.length)) ∧ Le w w' := by
 refine fn_of_run (args := [_, _]) 30 Tryz.func114 rfl rfl rfl fun cs => ?_
 have S := Own.start (X := nob) w
 refine r_seq ?_
 refine r_region ?_
 refine l_a rfl ?_
 refine l_nil ?_
 refine r_seq ?_
 refine r_region ?_
 refine l_a rfl ?_
 have S1 := S.nilvec (E := EI)
 refine l_nil ?_
 refine r_seq ?_
 refine r_seq ?_
 refine r_region ?_
 refine l_m rfl ?_
 refine l_x rfl (x_nilCheck rfl) ?_
 refine l_x rfl (x_fieldAddr rfl Tryz.runUnderlying130 rfl Tryz.sizeOf51 (by decide)) ?_
 refine l_x rfl (x_load rfl (ld_blk (hN.blk.keep S1.le id) Tryz.isAgg51 rfl)) ?_
 refine l_x rfl (x_len (hN.rc.le S1.le) rfl Tryz.runUnderlying51) ?_
 refine l_m rfl ?_
 refine l_nil ?_
 refine r_block ?_
 refine r_loop (G := Nat × Value) (fun ⟨i, vo⟩ => cz.length - i) (fun ⟨i, vo⟩ => [(1, Value.int .u16 ((s : Nat) : Int)), (5, vo), (11, vc), (12, Value.int .i64 cz.length), (13, Value.int .i64 i)]) (fun ⟨i, vo⟩ w' => (i ≤ cz.length) ∧ Own nob w w' [vec EI vo (lsP cz s i)]) (0, .slice none 0 0) ⟨rfl, rfl, rfl, rfl, rfl, trivial⟩ ⟨Nat.zero_le _, (S1.pick [0] (by decide) rfl)⟩ ?_
 rintro ⟨i, vo⟩ ρ w1 ⟨hi, S1⟩ IH
 refine r_seq ?_
 refine r_region ?_
 refine l_x rfl (x_lss rfl rfl) ?_
 refine l_nil ?_
 refine r_seq ?_
 refine r_ifd rfl (fun hc14 => ?_) (fun hc14 => ?_)
 ·skip
  obtain ⟨c, hc⟩ : ∃ c, cz[i]? = some c := ⟨_, List.getElem?_eq_getElem (by omega)⟩
  refine r_skip ?_
  refine r_seq ?_
  refine r_block ?_
  refine r_seq ?_
  refine r_region ?_
  refine l_m rfl ?_
  refine l_index ECL rfl (hN.rc.le S1.le) rfl rfl Tryz.runUnderlying51 Tryz.sizeOf83 (by omega) hc ?_
  intro b2 o3 hat4 row5
  refine l_x rfl (x_load rfl (ld_row Tryz.isAgg83 Tryz.sizeOf83 rfl row5)) ?_
  refine l_alloc S1 rfl Tryz.zeroValue83 rfl ?_
  intro b9 w6 S7 hl8
  refine l_a rfl ?_
  refine l_stores S7 1 rfl rfl rfl rfl (ECL.one _) Tryz.sizeOf83 (by first | exact Nat.le_refl _ | simp) (splice_all rfl) ?_
  intro w10 S11 hk12
  refine l_nil ?_
  refine r_seq ?_
  refine r_region ?_
  refine l_m rfl ?_
  refine l_m rfl ?_
  refine l_x rfl (x_shr (a := s) (n := i) rfl rfl (show i ≤ 16 by omega)) ?_
  refine l_x rfl (x_and (a := (s / 2 ^ i)) (c := 1) rfl rfl (show (s / 2 ^ i) < 32768 from Nat.lt_of_le_of_lt (Nat.div_le_self _ _) (by omega)) (show 1 < 32768 by decide)) ?_
  refine l_x rfl (x_eql rfl rfl) ?_
  refine l_nil ?_
  refine r_ifd rfl (fun hc22 => ?_) (fun hc22 => ?_)
  ·skip
   refine r_region ?_
   refine l_m rfl ?_
   refine l_x rfl (x_fieldAddr rfl Tryz.runUnderlying83 rfl Tryz.sizeOf3 (by decide)) ?_
   refine l_x rfl (x_load rfl (ld_blk (S11.blk 1 rfl) Tryz.isAgg3 rfl)) ?_
   refine l_buildSlice EI [c.owner] S11 rfl Tryz.runUnderlying52 Tryz.sizeOf3 Tryz.zeroValue3 rfl ⟨rfl, rfl, trivial⟩ (Nat.le_of_ble_eq_true rfl) ?_
   intro v16 w13 S14 hl15
   refine l_append EI S14 0 rfl rfl rfl rfl (vec_rd (S14.at 2 rfl)) Tryz.underlying52 info3 rfl rfl rfl (by have := ls_len (cs := cz) (s := s) (i := i); unfold maxLen; rw [List.length_singleton]; omega) (by have := ls_len (cs := cz) (s := s) (i := i); rw [List.length_singleton]; show _ * 8 ≤ _; omega) ?_
   intro v20 w17 S18 hk19 hv21
   refine l_a rfl ?_
   refine l_nil ?_
   refine r_inBlock ?_
   refine r_region ?_
   refine l_x rfl (x_add rfl rfl (by omega)) ?_
   refine l_m rfl ?_
   refine l_nil ?_
   exact IH (i + 1, v20) _ _ (by dsimp only; omega) ⟨rfl, rfl, rfl, rfl, rfl, trivial⟩ ⟨by omega, (by have h := S18.take 1; rw [ls_yes hc (bit_and.1 hc22)] at h; exact h)⟩
  refine r_skip ?_
  refine r_inBlock ?_
  refine r_region ?_
  refine l_x rfl (x_add rfl rfl (by omega)) ?_
  refine l_m rfl ?_
  refine l_nil ?_
  exact IH (i + 1, vo) _ _ (by dsimp only; omega) ⟨rfl, rfl, rfl, rfl, rfl, trivial⟩ ⟨by omega, (by have h := S11.take 1; rw [ls_no (by simpa using mt bit_and.2 hc22)] at h; exact h)⟩
 obtain rfl : i = cz.length := by omega
 refine r_exit rfl ?_
 refine r_seq ?_
 refine r_region ?_
 refine l_m rfl ?_
 refine l_a rfl ?_
 refine l_nil ?_
 refine r_ret (rs := [.tmp 4]) [_] Tryz.func114 rfl ⟨rfl, trivial⟩ ?_
 exact ⟨S1.new 0 rfl, S1.le⟩

theorem c_ownerOf (bb : Nat) (vc vu vn : Value) (cz : List Clm) (ms : List Nat) (cn : List Int) (i : Nat) (c : Clm) (hc : cz[i]? = some c) (w : World) (hN : BnP w bb vc vu vn cz ms cn) :
  Cl Tryz.prog 93 #[.pointer (some ⟨bb, 0, none⟩), Value.int .i64 i] w fun v w' => v = .int .i64 c.owner ∧ Le w w' := by
 refine fn_of_run (args := [_, _]) 15 Tryz.func93 rfl rfl rfl fun cs => ?_
 have S := Own.start (X := nob) w
 refine r_seq ?_
 refine r_region ?_
 refine l_a rfl ?_
 refine l_nil ?_
 refine r_seq ?_
 refine r_seq ?_
 refine r_region ?_
 refine l_m rfl ?_
 refine l_x rfl (x_lss rfl rfl) ?_
 refine l_nil ?_
 refine r_ifd rfl (fun hc6 => ?_) (fun hc6 => ?_)
 ·omega
 refine r_skip ?_
 refine r_seq ?_
 refine r_region ?_
 refine l_m rfl ?_
 refine l_x rfl (x_nilCheck rfl) ?_
 refine l_x rfl (x_fieldAddr rfl Tryz.runUnderlying130 rfl Tryz.sizeOf51 (by decide)) ?_
 refine l_x rfl (x_load rfl (ld_blk (hN.blk.keep S.le id) Tryz.isAgg51 rfl)) ?_
 refine l_m rfl ?_
 refine l_index ECL rfl (hN.rc.le S.le) rfl rfl Tryz.runUnderlying51 Tryz.sizeOf83 (by omega) (by rw [Int.toNat_natCast]; exact hc) ?_
 intro b1 o2 hat3 row4
 refine l_x rfl (x_fieldAddr rfl Tryz.runUnderlying83 rfl Tryz.sizeOf3 (by decide)) ?_
 refine l_x rfl (x_load rfl (ld_cell Tryz.isAgg3 (row4 0 _ rfl))) ?_
 refine l_a rfl ?_
 refine l_nil ?_
 refine r_ret (rs := [.tmp 4]) [_] Tryz.func93 rfl ⟨rfl, trivial⟩ ?_
 exact ⟨rfl, S.le⟩

theorem c_ownerOf0 (v0 : Value) (w : World) :
  Cl Tryz.prog 93 #[v0, Value.int .i64 (-1)] w fun v w' => v = .int .i64 0 ∧ Le w w' := by
 refine fn_of_run (args := [_, _]) 15 Tryz.func93 rfl rfl rfl fun cs => ?_
 have S := Own.start (X := nob) w
 refine r_seq ?_
 refine r_region ?_
 refine l_a rfl ?_
 refine l_nil ?_
 refine r_seq ?_
 refine r_seq ?_
 refine r_region ?_
 refine l_m rfl ?_
 refine l_x rfl (x_lss rfl rfl) ?_
 refine l_nil ?_
 refine r_ifd rfl (fun hc6 => ?_) (fun hc6 => ?_)
 ·skip
  refine r_seq ?_
  refine r_region ?_
  refine l_a rfl ?_
  refine l_nil ?_
  refine r_ret (rs := [.tmp 4]) [_] Tryz.func93 rfl ⟨rfl, trivial⟩ ?_
  exact ⟨rfl, S.le⟩
 omega

theorem c_claim1 (a : Clm) (o : Int) (bo : Nat) (w : World) (ho : Blk w bo [Value.int .i64 o] 3) :
  Cl Tryz.prog 167 #[Value.agg (encCl a).toArray, .pointer (some ⟨bo, 0, none⟩)] w fun v w' => v = .bool (decide (a.owner = o)) ∧ Le w w' := by
 refine fn_of_run (args := [_, _]) 8 Tryz.func167 rfl rfl rfl fun cs => ?_
 have S := Own.start (X := nob) w
 refine r_seq ?_
 refine r_region ?_
 refine l_box S rfl rfl ?_
 intro b4 w1 S2 hl3
 refine l_a rfl ?_
 refine l_nil ?_
 refine r_seq ?_
 refine r_region ?_
 refine l_x rfl (x_fieldAddr rfl Tryz.runUnderlying83 rfl Tryz.sizeOf3 (by decide)) ?_
 refine l_x rfl (x_load rfl (ld_blk (S2.blk 0 rfl) Tryz.isAgg3 rfl)) ?_
 refine l_x rfl (x_load rfl (ld_blk (ho.keep S2.le id) Tryz.isAgg3 rfl)) ?_
 refine l_x rfl (x_eql rfl rfl) ?_
 refine l_a rfl ?_
 refine l_nil ?_
 refine r_ret (rs := [.tmp 3]) [_] Tryz.func167 rfl ⟨rfl, trivial⟩ ?_
 exact ⟨rfl, S2.le⟩

theorem c_claim (bb : Nat) (vc vu vn : Value) (cz : List Clm) (ms : List Nat) (cn : List Int) (o : Int) (hl : cz.length ≤ 10) (w : World) (hN : BnP w bb vc vu vn cz ms cn) :
  Cl Tryz.prog 99 #[.pointer (some ⟨bb, 0, none⟩), Value.int .i64 o] w fun v w' => v = .int .i64 (idx (fun a : Clm => decide (a.owner = o)) cz) ∧ Le w w' := by
 refine fn_of_run (args := [_, _]) 11 Tryz.func99 rfl rfl rfl fun cs => ?_
 have S := Own.start (X := nob) w
 refine r_seq ?_
 refine r_region ?_
 refine l_box S rfl rfl ?_
 intro b4 w1 S2 hl3
 refine l_a rfl ?_
 refine l_nil ?_
 refine r_seq ?_
 refine r_region ?_
 refine l_m rfl ?_
 refine l_x rfl (x_nilCheck rfl) ?_
 refine l_x rfl (x_fieldAddr rfl Tryz.runUnderlying130 rfl Tryz.sizeOf51 (by decide)) ?_
 refine l_x rfl (x_load rfl (ld_blk (hN.blk.keep S2.le id) Tryz.isAgg51 rfl)) ?_
 refine l_x rfl (x_func rfl rfl) ?_
 refine l_call [] [] [_, _] rfl rfl Tryz.call166 rfl (c_IndexFuncC _ cz (fun a : Clm => decide (a.owner = o)) 167 [.pointer (some ⟨b4, 0, none⟩)] (by omega) _ (hN.rc.le S2.le) Tryz.call167 (fun x _ w1 h1 => c_claim1 x o _ w1 ((S2.blk 0 rfl).keep h1 id))) ?_
 rintro _ w5 ⟨rfl, hl7⟩
 have S6 := S2.step hl7
 refine l_a rfl ?_
 refine l_nil ?_
 refine r_ret (rs := [.tmp 4]) [_] Tryz.func99 rfl ⟨rfl, trivial⟩ ?_
 exact ⟨rfl, S6.le⟩

end Go.Proofs

namespace Go.Proofs
open Go Go.Vk Go.Vk.Flow

open Go.Vk.Mark
open Go.Vk.Deed (i64 rng rng_iff owners sumI sumI_cons sumI_snoc)

theorem c_CloneI (va : Value) (l : List Int) (hm : l.length ≤ 1000000000) (w : World) (hL : Rd EI w va l) :
  Cl Tryz.prog 174 #[va] w fun v w' => New w w' (vec EI v l) ∧ Le w w' := by
 refine fn_of_run (args := [_]) 8 Tryz.func174 rfl rfl rfl fun cs => ?_
 have S := Own.start (X := nob) w
 refine r_seq ?_
 refine r_region ?_
 refine l_a rfl ?_
 refine l_nil ?_
 refine r_seq ?_
 refine r_seq ?_
 refine r_region ?_
 refine l_m rfl ?_
 refine l_nilsl (hL.le S.le) rfl rfl rfl Tryz.runUnderlying52 (fun t1 hnil4 => ?_)
 refine l_nil ?_
 refine r_if rfl (fun hc4 => ?_) (fun hc4 => ?_)
 ·skip
  refine r_seq ?_
  refine r_region ?_
  refine l_a rfl ?_
  refine l_nil ?_
  refine r_ret (rs := [.tmp 2]) [_] Tryz.func174 rfl ⟨rfl, trivial⟩ ?_
  exact ⟨by rw [hnil4 hc4]; exact New.nilvec .., S.le⟩
 refine r_skip ?_
 refine r_seq ?_
 refine r_region ?_
 refine l_buildSlice EI [] S rfl Tryz.runUnderlying52 Tryz.sizeOf3 Tryz.zeroValue3 rfl trivial (Nat.le_of_ble_eq_true rfl) ?_
 intro v5 w2 S3 hl4
 refine l_m rfl ?_
 refine l_append EI S3 0 rfl rfl rfl rfl (hL.le S3.le) Tryz.underlying52 info3 rfl rfl rfl (by unfold maxLen; rw [List.length_nil]; omega) (by rw [List.length_nil]; show _ * 8 ≤ _; omega) ?_
 intro v9 w6 S7 hk8 hv10
 refine l_a rfl ?_
 refine l_nil ?_
 refine r_ret (rs := [.tmp 2]) [_] Tryz.func174 rfl ⟨rfl, trivial⟩ ?_
 exact ⟨S7.new 0 rfl, S7.le⟩

theorem pow10 {k : Nat} (h : k ≤ 10) : (2 : Int) ^ k ≤ 1024 := by
 have : 2 ^ k ≤ 1024 := Nat.le_trans (Nat.pow_le_pow_right (n := 2) (by omega) h) (by decide)
 have h2 : ((2 ^ k : Nat) : Int) = (2 : Int) ^ k := Int.natCast_pow 2 k
 rw [← h2]; omega

set_option maxHeartbeats 4000000 in
theorem c_short (bb : Nat) (vc vu vn : Value) (cz : List Clm) (ms : List Nat) (cn : List Int) (hl : cz.length ≤ 10) (hcb : ∀ c ∈ cz, 0 ≤ c.number ∧ c.number ≤ 60) (hcl : cn.length = 2 ^ cz.length) (hcn : ∀ x ∈ cn, 0 ≤ x ∧ x ≤ 60) (yl : Nat) (X : Nat → Prop) (u : World) (hN : ∀ wz, Keep X u wz → BnP wz bb vc vu vn cz ms cn) (R : List Nat → Rsc → Prop) (Rz : Nat → Rsc → Prop)
  (hy : ∀ l r s w1, R l r → l = shP cz cn s → s < 2 ^ cz.length → zshort cz cn s = true → Keep X u w1 → Own r.fp w1 w1 [r] → Yl Tryz.prog yl #[Value.int .u16 ((s : Nat) : Int)] w1 fun v w2 => ∃ (q : Bool) (r' : Rsc), v = .bool q ∧ (q = true → R (l ++ [s]) r') ∧ (q = false → Rz s r') ∧ Own r.fp w1 w2 [r']) (r : Rsc) (hr : R [] r) (w : World) (S : Own X u w [r]) :
  Cl Tryz.prog 112 #[.pointer (some ⟨bb, 0, none⟩), .func (.yield yl) #[] #[]] w fun _ w' => ∃ r', (R (shP cz cn (2 ^ cz.length)) r' ∨ ∃ s, Rz s r') ∧ Own X u w' [r'] := by
 have hn1 : 2 ^ cz.length ≤ 1024 := Nat.pow_le_pow_right (n := 2) (by omega) hl
 have hn0 : 0 < 2 ^ cz.length := Nat.pow_pos (by omega)
 refine fn_of_run (args := [_, _]) 79 Tryz.func112 rfl rfl rfl fun cs => ?_
 refine r_seq ?_
 refine r_region ?_
 refine l_m rfl ?_
 refine l_x rfl (x_nilCheck rfl) ?_
 refine l_x rfl (x_fieldAddr rfl Tryz.runUnderlying130 rfl Tryz.sizeOf52 (by decide)) ?_
 refine l_x rfl (x_load rfl (ld_blk ((hN _ S.keep).blk) Tryz.isAgg52 rfl)) ?_
 refine l_call [] [] [_] rfl rfl Tryz.call174 rfl (c_CloneI _ cn (by omega) _ ((hN _ S.keep).rn)) ?_
 rintro v131 w1 ⟨hN131, hl131⟩
 have S2 := S.add hl131 hN131
 refine l_a rfl ?_
 refine l_nil ?_
 refine r_seq ?_
 refine r_seq ?_
 refine r_region ?_
 refine l_m rfl ?_
 refine l_x rfl (x_nilCheck rfl) ?_
 refine l_x rfl (x_fieldAddr rfl Tryz.runUnderlying130 rfl Tryz.sizeOf51 (by decide)) ?_
 refine l_x rfl (x_load rfl (ld_blk ((hN _ S2.keep).blk) Tryz.isAgg51 rfl)) ?_
 refine l_x rfl (x_len ((hN _ S2.keep).rc) rfl Tryz.runUnderlying51) ?_
 refine l_m rfl ?_
 refine l_nil ?_
 refine r_block ?_
 refine r_loop (G := Nat) (fun k => cz.length - k) (fun k => [(0, .pointer (some ⟨bb, 0, none⟩)), (1, .func (.yield yl) #[] #[]), (4, v131), (17, vc), (18, Value.int .i64 cz.length), (19, Value.int .i64 k)]) (fun k w' => (k ≤ cz.length) ∧ Own X u w' [r, vec EI v131 (zlist cn (2 ^ cz.length) k 0)]) 0 ⟨rfl, rfl, rfl, rfl, rfl, rfl, trivial⟩ ⟨Nat.zero_le _, (by rw [zl_start hcl]; exact S2.take 2)⟩ ?_
 rintro k ρ w1 ⟨hk, S1⟩ IH
 refine r_seq ?_
 refine r_region ?_
 refine l_x rfl (x_lss rfl rfl) ?_
 refine l_nil ?_
 refine r_seq ?_
 refine r_ifd rfl (fun hc20 => ?_) (fun hc20 => ?_)
 ·skip
  have hzl : (zlist cn (2 ^ cz.length) k 0).length = 2 ^ cz.length := zl_len
  have hkp : 2 ^ k ≤ 1024 := Nat.le_trans (Nat.pow_le_pow_right (n := 2) (by omega) (show k ≤ 10 by omega)) (by decide)
  have hp10 := pow10 (k := k) (by omega)
  refine r_skip ?_
  refine r_seq ?_
  refine r_block ?_
  refine r_seq ?_
  refine r_region ?_
  refine l_m rfl ?_
  refine l_a rfl ?_
  refine l_nil ?_
  refine r_seq ?_
  refine r_region ?_
  refine l_m rfl ?_
  refine l_x rfl (x_len (vec_rd (S1.at 1 rfl)) rfl Tryz.runUnderlying52) ?_
  refine l_m rfl ?_
  refine l_nil ?_
  refine r_block ?_
  refine r_loop (G := Nat) (fun i => 2 ^ cz.length - i) (fun i => [(0, .pointer (some ⟨bb, 0, none⟩)), (1, .func (.yield yl) #[] #[]), (4, v131), (5, Value.int .i64 k), (17, vc), (18, Value.int .i64 cz.length), (19, Value.int .i64 k), (23, Value.int .i64 (zlist cn (2 ^ cz.length) k 0).length), (24, Value.int .i64 i)]) (fun i w' => (i ≤ 2 ^ cz.length) ∧ Own X u w' [r, vec EI v131 (zlist cn (2 ^ cz.length) k i)]) 0 ⟨rfl, rfl, rfl, rfl, rfl, rfl, rfl, rfl, rfl, trivial⟩ ⟨Nat.zero_le _, (S1.take 2)⟩ ?_
  rintro i ρ w1b ⟨hi, S1b⟩ IHb
  refine r_seq ?_
  refine r_region ?_
  refine l_x rfl (x_lss rfl rfl) ?_
  refine l_nil ?_
  refine r_seq ?_
  refine r_ifd rfl (fun hc25 => ?_) (fun hc25 => ?_)
  ·skip
   refine r_skip ?_
   refine r_seq ?_
   refine r_block ?_
   refine r_seq ?_
   refine r_region ?_
   refine l_m rfl ?_
   refine l_a rfl ?_
   refine l_nil ?_
   refine r_seq ?_
   refine r_region ?_
   refine l_m rfl ?_
   refine l_m rfl ?_
   refine l_x rfl (x_shr (a := i) (n := k) rfl rfl (show k ≤ 64 by omega)) ?_
   refine l_x rfl (x_and (a := i / 2 ^ k) (c := 1) rfl rfl (show i / 2 ^ k < 9223372036854775808 from Nat.lt_of_le_of_lt (Nat.div_le_self _ _) (by omega)) (show 1 < 9223372036854775808 by decide)) ?_
   refine l_x rfl (x_eql rfl rfl) ?_
   refine l_nil ?_
   refine r_ifd rfl (fun hc31 => ?_) (fun hc31 => ?_)
   ·skip
    have hbt := bit_and.1 hc31
    have hz1 : (zlist cn (2 ^ cz.length) k i)[i]? = some (zet cn k i) := by rw [zl_get (by omega), if_neg (by omega)]
    have hz2 : (zlist cn (2 ^ cz.length) k i)[lessBits i (1 * 2 ^ k)]? = some (zet cn k (lessBits i (2 ^ k))) := by rw [Nat.one_mul]; exact zl_at (lessBits_lt (by omega)) less_bit
    have hza := zet_bd (k := k) (s := i) hcn
    have hzb := zet_bd (k := k) (s := lessBits i (2 ^ k)) hcn
    refine r_drawR 13 Tryz.mixed (by kernel_rfl) ?_
    refine w_x rfl (fun w1 h1 => x_mv rfl) ?_
    refine w_x rfl (fun w1 h1 => x_mv rfl) ?_
    refine w_index EI rfl (vec_rd (S1b.at 1 rfl)) rfl rfl Tryz.runUnderlying52 Tryz.sizeOf3 (by omega) hz1 ?_
    intro b3 o4 hat5 row6
    refine w_x rfl (fun w1 h1 => x_load rfl (ld_cell Tryz.isAgg3 ((row6.le h1) 0 _ rfl))) ?_
    refine w_x rfl (fun w1 h1 => x_mv rfl) ?_
    refine w_x rfl (fun w1 h1 => x_mv rfl) ?_
    refine w_x rfl (fun w1 h1 => x_mv rfl) ?_
    refine w_x rfl (fun w1 h1 => x_shl (a := 1) (n := k) rfl rfl (show k ≤ 64 by omega) (show 1 * 2 ^ k < 2 ^ 63 by rw [Nat.one_mul]; exact Nat.pow_lt_pow_right (by omega) (by omega))) ?_
    refine w_x rfl (fun w1 h1 => x_andNot (a := i) (c := 1 * 2 ^ k) rfl rfl (show i < 9223372036854775808 by omega) (show 1 * 2 ^ k < 9223372036854775808 by omega)) ?_
    refine w_index EI rfl (vec_rd (S1b.at 1 rfl)) rfl rfl Tryz.runUnderlying52 Tryz.sizeOf3 (by omega) hz2 ?_
    intro b7 o8 hat9 row10
    refine w_x rfl (fun w1 h1 => x_load rfl (ld_cell Tryz.isAgg3 ((row10.le h1) 0 _ rfl))) ?_
    refine w_x rfl (fun w1 h1 => x_add rfl rfl (by omega)) ?_
    refine w_index EI rfl (vec_rd (S1b.at 1 rfl)) rfl rfl Tryz.runUnderlying52 Tryz.sizeOf3 (by omega) hz1 ?_
    intro b11 o12 hat13 row14
    refine w_nil ?_
    intro w15 hl16
    have S17 := S1b.step hl16
    refine l_storevi (f := 0) S17 1 rfl rfl hat13 rfl rfl Tryz.sizeOf3 hz1 (by decide) rfl ?_
    intro w18 S19 hk20
    refine l_nil ?_
    refine r_inBlock ?_
    refine r_region ?_
    refine l_x rfl (x_add rfl rfl (by omega)) ?_
    refine l_m rfl ?_
    refine l_nil ?_
    exact IHb (i + 1) _ _ (by omega) ⟨rfl, rfl, rfl, rfl, rfl, rfl, rfl, rfl, rfl, trivial⟩ ⟨by omega, (by rw [← zl_set (by omega) hbt]; exact S19.take 2)⟩
   refine r_skip ?_
   refine r_inBlock ?_
   refine r_region ?_
   refine l_x rfl (x_add rfl rfl (by omega)) ?_
   refine l_m rfl ?_
   refine l_nil ?_
   exact IHb (i + 1) _ _ (by omega) ⟨rfl, rfl, rfl, rfl, rfl, rfl, rfl, rfl, rfl, trivial⟩ ⟨by omega, (by rw [← zl_no (by simpa using mt bit_and.2 hc31)]; exact S1b.take 2)⟩
  obtain rfl : i = 2 ^ cz.length := by omega
  refine r_exit rfl ?_
  refine r_inBlock ?_
  refine r_region ?_
  refine l_x rfl (x_add rfl rfl (by omega)) ?_
  refine l_m rfl ?_
  refine l_nil ?_
  exact IH (k + 1) _ _ (by omega) ⟨rfl, rfl, rfl, rfl, rfl, rfl, trivial⟩ ⟨by omega, (by rw [← zl_next]; exact S1b.take 2)⟩
 obtain rfl : k = cz.length := by omega
 have hzl : (zlist cn (2 ^ cz.length) cz.length 0).length = 2 ^ cz.length := zl_len
 refine r_exit rfl ?_
 refine r_seq ?_
 refine r_region ?_
 refine l_m rfl ?_
 refine l_x rfl (x_len (vec_rd (S1.at 1 rfl)) rfl Tryz.runUnderlying52) ?_
 refine l_x rfl (x_sub rfl rfl (by omega)) ?_
 refine l_a rfl ?_
 refine l_nil ?_
 refine r_seq ?_
 refine r_slot 7 (.int .i64 ((2 ^ cz.length - 1 : Nat) : Int)) (congrArg (Value.int .i64) (by rw [zl_len]; omega)) ?_
 refine r_region ?_
 refine l_m rfl ?_
 refine l_x rfl (x_len (vec_rd (S1.at 1 rfl)) rfl Tryz.runUnderlying52) ?_
 refine l_m rfl ?_
 refine l_nil ?_
 refine r_block ?_
 refine r_loop (G := Nat × Rsc) (fun ⟨i, r1⟩ => 2 ^ cz.length - i) (fun ⟨i, r1⟩ => [(0, .pointer (some ⟨bb, 0, none⟩)), (1, .func (.yield yl) #[] #[]), (4, v131), (7, Value.int .i64 ((2 ^ cz.length - 1 : Nat) : Int)), (51, Value.int .i64 (zlist cn (2 ^ cz.length) cz.length 0).length), (52, Value.int .i64 i)]) (fun ⟨i, r1⟩ w' => (i ≤ 2 ^ cz.length) ∧ (R (shP cz cn i) r1) ∧ Own X u w' [r1, vec EI v131 (zlist cn (2 ^ cz.length) cz.length 0)]) (0, r) ⟨rfl, rfl, rfl, rfl, rfl, rfl, trivial⟩ ⟨Nat.zero_le _, by rw [sh_zero]; exact hr, (S1.take 2)⟩ ?_
 rintro ⟨i, r1⟩ ρ w1c ⟨hi, hR, S1c⟩ IHc
 refine r_seq ?_
 refine r_region ?_
 refine l_x rfl (x_lss rfl rfl) ?_
 refine l_nil ?_
 refine r_seq ?_
 refine r_ifd rfl (fun hc53 => ?_) (fun hc53 => ?_)
 ·skip
  have hzl : (zlist cn (2 ^ cz.length) cz.length 0).length = 2 ^ cz.length := zl_len
  have hz3 : (zlist cn (2 ^ cz.length) cz.length 0)[2 ^ cz.length - 1]? = some (zet cn cz.length (2 ^ cz.length - 1)) := by rw [zl_get (by omega), if_neg (by omega)]
  have hz4 : (zlist cn (2 ^ cz.length) cz.length 0)[lessBits (2 ^ cz.length - 1) i]? = some (zet cn cz.length (lessBits (2 ^ cz.length - 1) i)) := by rw [zl_get (lessBits_lt (by omega)), if_neg (by omega)]
  have hza := zet_bd (k := cz.length) (s := 2 ^ cz.length - 1) hcn
  have hzb := zet_bd (k := cz.length) (s := lessBits (2 ^ cz.length - 1) i) hcn
  have hp10 := pow10 hl
  refine r_skip ?_
  refine r_seq ?_
  refine r_block ?_
  refine r_seq ?_
  refine r_region ?_
  refine l_m rfl ?_
  refine l_a rfl ?_
  refine l_nil ?_
  refine r_seq ?_
  refine r_drawR 20 Tryz.mixed (by kernel_rfl) ?_
  refine w_x rfl (fun w1 h1 => x_mv rfl) ?_
  refine w_x rfl (fun w1 h1 => x_mv rfl) ?_
  refine w_x rfl (fun w1 h1 => x_convert rfl Tryz.runUnderlying3 Tryz.runUnderlying138 (wrap_nat (k := .u16) (show i < 32768 by omega))) ?_
  refine wd_call [] [] [_, _] rfl rfl Tryz.call175 rfl (fun w1 h1 => c_needs bb vc vu vn cz ms cn i (by omega) hl hcb _ (hN _ (S1c.step h1).keep)) ?_
  refine w_x rfl (fun w1 h1 => x_mv rfl) ?_
  refine w_x rfl (fun w1 h1 => x_mv rfl) ?_
  refine w_index EI rfl (vec_rd (S1c.at 1 rfl)) rfl rfl Tryz.runUnderlying52 Tryz.sizeOf3 (by omega) hz3 ?_
  intro b21 o22 hat23 row24
  refine w_x rfl (fun w1 h1 => x_load rfl (ld_cell Tryz.isAgg3 ((row24.le h1) 0 _ rfl))) ?_
  refine w_x rfl (fun w1 h1 => x_mv rfl) ?_
  refine w_x rfl (fun w1 h1 => x_mv rfl) ?_
  refine w_x rfl (fun w1 h1 => x_mv rfl) ?_
  refine w_x rfl (fun w1 h1 => x_andNot (a := 2 ^ cz.length - 1) (c := i) rfl rfl (show 2 ^ cz.length - 1 < 9223372036854775808 by omega) (show i < 9223372036854775808 by omega)) ?_
  refine w_index EI rfl (vec_rd (S1c.at 1 rfl)) rfl rfl Tryz.runUnderlying52 Tryz.sizeOf3 (by omega) hz4 ?_
  intro b25 o26 hat27 row28
  refine w_x rfl (fun w1 h1 => x_load rfl (ld_cell Tryz.isAgg3 ((row28.le h1) 0 _ rfl))) ?_
  refine w_x rfl (fun w1 h1 => x_sub rfl rfl (by omega)) ?_
  refine w_x rfl (fun w1 h1 => x_gtr rfl rfl) ?_
  refine w_x rfl (fun w1 h1 => x_mv rfl) ?_
  refine w_splitd (d := 71) rfl (fun hg71 => ?_) (fun hg71 => ?_)
  ·skip
   have hzs : zshort cz cn i = true := decide_eq_true (by first | exact hg71 | (simpa using hg71))
   refine w_x rfl (fun w1 h1 => x_mv rfl) ?_
   refine w_x rfl (fun w1 h1 => x_mv rfl) ?_
   refine w_x rfl (fun w1 h1 => x_convert rfl Tryz.runUnderlying3 Tryz.runUnderlying138 (wrap_nat (k := .u16) (show i < 32768 by omega))) ?_
   refine w_nil ?_
   intro w29 hl30
   have S31 := S1c.step hl30
   refine l_yield [_] rfl rfl rfl (hy (shP cz cn i) r1 i _ hR rfl (by omega) hzs S31.keep (S31.lend 0 rfl)) ?_
   rintro _ w32 ⟨q36, r35, rfl, hTr35, hFr35, hback33⟩
   have S34 := S31.back 0 rfl hback33
   refine l_x rfl (x_not rfl) ?_
   refine l_x rfl (x_pick_t rfl rfl) ?_
   refine l_nil ?_
   refine r_if rfl (fun hc77 => ?_) (fun hc77 => ?_)
   ·skip
    refine r_ret (rs := []) [] Tryz.func112 rfl trivial ?_
    exact ⟨_, .inr ⟨i, hFr35 (by simpa using hc77)⟩, S34.take 1⟩
   refine r_skip ?_
   refine r_inBlock ?_
   refine r_region ?_
   refine l_x rfl (x_add rfl rfl (by omega)) ?_
   refine l_m rfl ?_
   refine l_nil ?_
   exact IHc (i + 1, r35) _ _ (by dsimp only; omega) ⟨rfl, rfl, rfl, rfl, rfl, rfl, trivial⟩ ⟨by omega, by rw [sh_yes hzs]; exact hTr35 (by simpa using hc77), (S34.take 2)⟩
  have hzn : zshort cz cn i = false := decide_eq_false (by first | exact hg71 | (simpa using hg71))
  refine w_pass rfl ?_
  refine w_pass rfl ?_
  refine w_pass rfl ?_
  refine w_nil ?_
  intro w37 hl38
  have S39 := S1c.step hl38
  refine l_pass rfl ?_
  refine l_pass rfl ?_
  refine l_x rfl (x_pick_f rfl rfl) ?_
  refine l_nil ?_
  refine r_false rfl ?_
  refine r_skip ?_
  refine r_inBlock ?_
  refine r_region ?_
  refine l_x rfl (x_add rfl rfl (by omega)) ?_
  refine l_m rfl ?_
  refine l_nil ?_
  exact IHc (i + 1, r1) _ _ (by dsimp only; omega) ⟨rfl, rfl, rfl, rfl, rfl, rfl, trivial⟩ ⟨by omega, by rw [sh_no hzn]; exact hR, (S39.take 2)⟩
 have hzl : (zlist cn (2 ^ cz.length) cz.length 0).length = 2 ^ cz.length := zl_len
 obtain rfl : i = 2 ^ cz.length := by omega
 refine r_exit rfl ?_
 refine r_end (rs := []) [] Tryz.func112 rfl trivial ?_
 exact ⟨_, .inl hR, S1c.take 1⟩

end Go.Proofs

namespace Go.Proofs
open Go Go.Vk Go.Vk.Flow

open Go.Vk.Mark
open Go.Vk.Deed (i64 rng rng_iff owners sumI sumI_cons sumI_snoc)

set_option maxHeartbeats 1000000 in
theorem c_can (bb : Nat) (vc vu vn : Value) (cz : List Clm) (ms : List Nat) (cn : List Int) (hl : cz.length ≤ 10) (hcb : ∀ c ∈ cz, 0 ≤ c.number ∧ c.number ≤ 60) (hcl : cn.length = 2 ^ cz.length) (hcn : ∀ x ∈ cn, 0 ≤ x ∧ x ≤ 60) (w : World) (hN : BnP w bb vc vu vn cz ms cn) :
  Cl Tryz.prog 90 #[.pointer (some ⟨bb, 0, none⟩)] w fun v w' => v = .bool (canB cz cn) ∧ Le w w' := by
 refine fn_of_run (args := [_]) 6 Tryz.func90 rfl rfl rfl fun cs => ?_
 have S := Own.start (X := nob) w
 refine r_seq ?_
 refine r_region ?_
 refine l_alloc S rfl Tryz.zeroValue4 rfl ?_
 intro b4 w1 S2 hl3
 refine l_nil ?_
 refine r_seq ?_
 refine r_seq ?_
 refine r_region ?_
 refine l_m rfl ?_
 refine l_x rfl (x_func rfl rfl) ?_
 refine l_nil ?_
 refine r_block ?_
 refine r_rangeFunc [_] [] S2 rfl rfl Tryz.call112 ?_
 intro D5 l6 w7 S8 hl9
 have S10 : Own _ _ _ [_, _, _] := S8.pick [0, 1, 2] (by decide) rfl
 have S11 := Own.pack (A := []) (L := [_, _, _]) S10
 refine (c_short bb vc vu vn cz ms cn hl hcb hcl hcn _ nob w (fun _ hk => hN.le hk) (fun l r => [] = l ∧ r = pack [blk b4 [.bool false] 4, _, _]) (fun s r => (s < 2 ^ cz.length ∧ zshort cz cn s = true) ∧ ∃ rec, (rec.state == LoopState.busy) = false ∧ rec.pending = some .ret ∧ r = pack [blk b4 [.bool false] 4, obj D5 (.deferred (some [])), obj l6 (.loop rec)]) ?_ _ ⟨rfl, rfl⟩ _ S11).mono ?_
 ·skip
  rintro l9 r9 s9 w1 ⟨rfl, rfl⟩ hl9 hs9 hz9 hK hS
  have S12 := hS.open
  refine yl_of_run (S12.obj 2 rfl) rfl (fun c cs => ?_)
  refine r_skip ?_
  refine r_beginRound S12 2 rfl rfl ?_
  intro w13 S14 hk15
  refine r_block ?_
  refine r_seq ?_
  refine r_region ?_
  refine l_storeq (c' := [_]) S14 0 rfl rfl rfl rfl rfl Tryz.sizeOf4 (by first | (simp; done) | exact Nat.le_of_ble_eq_true rfl) rfl ?_
  intro w16 S17 hk18
  refine l_nil ?_
  refine r_roundRet S17 2 rfl ?_
  intro w19 S20
  exact ⟨false, _, rfl, nofun, fun _ => ⟨⟨hs9, hz9⟩, _, rfl, rfl, rfl⟩, S20.close⟩
 rintro _ w21 ⟨r9, (⟨hnil9, rfl⟩ | ⟨s9, ⟨hs9, hz9⟩, rec9, hst9, hpe9, rfl⟩), hback22⟩
 ·skip
  have S23 := Own.unpack (A := []) (L := [_, _, _]) hback22
  refine r_endRange S23 2 rfl rfl ?_
  intro w24 S25 hk26
  refine r_inBlock ?_
  refine r_seq ?_
  refine r_region ?_
  refine l_storeq (c' := [_]) S25 0 rfl rfl rfl rfl rfl Tryz.sizeOf4 (by first | (simp; done) | exact Nat.le_of_ble_eq_true rfl) rfl ?_
  intro w27 S28 hk29
  refine l_nil ?_
  refine r_retL rfl ?_
  refine leave_mark S28 1 rfl ?_
  intro w30 S31 hk32
  refine leave_done (rs := [.cell 2 4]) [_] Tryz.func90 rfl ⟨⟨_, rfl, (ld_blk (S31.blk 0 rfl) Tryz.isAgg4 rfl)⟩, trivial⟩ ?_
  exact ⟨congrArg Value.bool (can_yes hnil9), S31.le⟩
 have S33 := Own.unpack (A := []) (L := [_, _, _]) hback22
 refine r_endRange S33 2 rfl hst9 ?_
 intro w34 S35 hk36
 rw [hpe9]
 change Run _ _ _ _ _ (.code .ret :: _) _ _ _
 refine r_retL rfl ?_
 refine leave_mark S35 1 rfl ?_
 intro w37 S38 hk39
 refine leave_done (rs := [.cell 2 4]) [_] Tryz.func90 rfl ⟨⟨_, rfl, (ld_blk (S38.blk 0 rfl) Tryz.isAgg4 rfl)⟩, trivial⟩ ?_
 exact ⟨congrArg Value.bool (can_no hs9 hz9), S38.le⟩

end Go.Proofs

namespace Go.Proofs
open Go Go.Vk Go.Vk.Flow

open Go.Vk.Mark
open Go.Vk.Deed (i64 rng rng_iff owners sumI sumI_cons sumI_snoc)
abbrev bnR (bb : Nat) (vc vu vn : Value) (cz : List Clm) (ms : List Nat) (cn : List Int) : Rsc := pack [blk bb [vc, vu, vn] 130, vec ECL vc cz, vec EUK vu ms, vec EI vn cn]
theorem bn_of {w : World} {bb : Nat} {vc vu vn : Value} {cz : List Clm} {ms : List Nat} {cn : List Int} (h : RO (bnR bb vc vu vn cz ms cn) w) : BnP w bb vc vu vn cz ms cn :=
 ⟨(h.at 0 rfl).ok, vec_rd (h.at 1 rfl).ok, vec_rd (h.at 2 rfl).ok, vec_rd (h.at 3 rfl).ok⟩

set_option maxHeartbeats 1000000 in
theorem c_giveJ (bb : Nat) (vc vu vn : Value) (cz : List Clm) (ms : List Nat) (cn : List Int) (i j : Nat) (q : Int) (t : Nat) (x : Int) (c : Clm) (hm : ms[i]? = some t) (hx : cn[t]? = some x) (hc : cz[j]? = some c) (hq : -1 ≤ q ∧ q ≤ 1) (hxb : -100 ≤ x ∧ x ≤ 100) (hcb : -100 ≤ c.number ∧ c.number ≤ 100) (w : World) (S0 : Own (bnR bb vc vu vn cz ms cn).fp w w [bnR bb vc vu vn cz ms cn]) :
  Cl Tryz.prog 162 #[.pointer (some ⟨bb, 0, none⟩), Value.int .i64 i, Value.int .i64 j, Value.int .i64 q] w fun _ w' => Own (bnR bb vc vu vn cz ms cn).fp w w' [bnR bb vc vu vn (giveC cz j q) ms (giveN cn t q)] ∧ True := by
 refine fn_of_run (args := [_, _, _, _]) 38 Tryz.func162 rfl rfl rfl fun cs => ?_
 have S := S0.open
 refine r_seq ?_
 refine r_drawR 16 Tryz.mixed (by kernel_rfl) ?_
 refine w_x rfl (fun w1 h1 => x_mv rfl) ?_
 refine w_x rfl (fun w1 h1 => x_nilCheck rfl) ?_
 refine w_x rfl (fun w1 h1 => x_fieldAddr rfl Tryz.runUnderlying130 rfl Tryz.sizeOf52 (by decide)) ?_
 refine w_x rfl (fun w1 h1 => x_load rfl (ld_blk ((S.step h1).blk 0 rfl) Tryz.isAgg52 rfl)) ?_
 refine w_x rfl (fun w1 h1 => x_mv rfl) ?_
 refine w_x rfl (fun w1 h1 => x_nilCheck rfl) ?_
 refine w_x rfl (fun w1 h1 => x_fieldAddr rfl Tryz.runUnderlying130 rfl Tryz.sizeOf128 (by decide)) ?_
 refine w_x rfl (fun w1 h1 => x_load rfl (ld_blk ((S.step h1).blk 0 rfl) Tryz.isAgg128 rfl)) ?_
 refine w_x rfl (fun w1 h1 => x_mv rfl) ?_
 refine w_index EUK rfl (vec_rd (S.at 2 rfl)) rfl rfl Tryz.runUnderlying128 Tryz.sizeOf138 (by omega) hm ?_
 intro b1 o2 hat3 row4
 refine w_x rfl (fun w1 h1 => x_load rfl (ld_cell Tryz.isAgg138 ((row4.le h1) 0 _ rfl))) ?_
 refine w_indexk EI rfl (vec_rd (S.at 3 rfl)) rfl rfl Tryz.runUnderlying52 Tryz.sizeOf3 (by omega) hx ?_
 intro b5 o6 hat7 row8
 refine w_x rfl (fun w1 h1 => x_load rfl (ld_cell Tryz.isAgg3 ((row8.le h1) 0 _ rfl))) ?_
 refine w_x rfl (fun w1 h1 => x_mv rfl) ?_
 refine w_x rfl (fun w1 h1 => x_sub rfl rfl (by omega)) ?_
 refine w_indexk EI rfl (vec_rd (S.at 3 rfl)) rfl rfl Tryz.runUnderlying52 Tryz.sizeOf3 (by omega) hx ?_
 intro b9 o10 hat11 row12
 refine w_nil ?_
 intro w13 hl14
 have S15 := S.step hl14
 refine l_storevi (a' := x - q) (f := 0) S15 3 rfl rfl hat11 rfl rfl Tryz.sizeOf3 hx (by decide) rfl ?_
 intro w16 S17 hk18
 refine l_nil ?_
 refine r_seq ?_
 refine r_region ?_
 refine l_m rfl ?_
 refine l_x rfl (x_geq rfl rfl) ?_
 refine l_nil ?_
 refine r_ifd rfl (fun hc25 => ?_) (fun hc25 => ?_)
 ·skip
  refine r_region ?_
  refine l_m rfl ?_
  refine l_x rfl (x_nilCheck rfl) ?_
  refine l_x rfl (x_fieldAddr rfl Tryz.runUnderlying130 rfl Tryz.sizeOf51 (by decide)) ?_
  refine l_x rfl (x_load rfl (ld_blk (S17.blk 0 rfl) Tryz.isAgg51 rfl)) ?_
  refine l_m rfl ?_
  refine l_index ECL rfl (vec_rd (S17.at 1 rfl)) rfl rfl Tryz.runUnderlying51 Tryz.sizeOf83 (by omega) hc ?_
  intro b19 o20 hat21 row22
  refine l_x rfl (x_fieldAddr rfl Tryz.runUnderlying83 rfl Tryz.sizeOf3 (by decide)) ?_
  refine l_x rfl (x_load rfl (ld_cell Tryz.isAgg3 (row22 1 _ rfl))) ?_
  refine l_m rfl ?_
  refine l_x rfl (x_sub rfl rfl (by omega)) ?_
  refine l_index ECL rfl (vec_rd (S17.at 1 rfl)) rfl rfl Tryz.runUnderlying51 Tryz.sizeOf83 (by omega) hc ?_
  intro b23 o24 hat25 row26
  refine l_x rfl (x_fieldAddr rfl Tryz.runUnderlying83 rfl Tryz.sizeOf3 (by decide)) ?_
  refine l_storevi (a' := ⟨c.owner, c.number - q⟩) (f := 1) S17 1 rfl rfl hat25 rfl rfl Tryz.sizeOf3 hc (by decide) rfl ?_
  intro w27 S28 hk29
  refine l_nil ?_
  refine r_end (rs := []) [] Tryz.func162 rfl trivial ?_
  exact ⟨by have h := S28.close; rw [Int.toNat_natCast, Int.toNat_natCast, giveN_at hx, giveC_at hc] at h; exact h, trivial⟩
 omega

set_option maxHeartbeats 1000000 in
theorem c_give0 (bb : Nat) (vc vu vn : Value) (cz : List Clm) (ms : List Nat) (cn : List Int) (i : Nat) (q : Int) (t : Nat) (x : Int) (hm : ms[i]? = some t) (hx : cn[t]? = some x) (hq : -1 ≤ q ∧ q ≤ 1) (hxb : -100 ≤ x ∧ x ≤ 100) (w : World) (S0 : Own (bnR bb vc vu vn cz ms cn).fp w w [bnR bb vc vu vn cz ms cn]) :
  Cl Tryz.prog 162 #[.pointer (some ⟨bb, 0, none⟩), Value.int .i64 i, Value.int .i64 (-1), Value.int .i64 q] w fun _ w' => Own (bnR bb vc vu vn cz ms cn).fp w w' [bnR bb vc vu vn cz ms (giveN cn t q)] ∧ True := by
 refine fn_of_run (args := [_, _, _, _]) 38 Tryz.func162 rfl rfl rfl fun cs => ?_
 have S := S0.open
 refine r_seq ?_
 refine r_drawR 16 Tryz.mixed (by kernel_rfl) ?_
 refine w_x rfl (fun w1 h1 => x_mv rfl) ?_
 refine w_x rfl (fun w1 h1 => x_nilCheck rfl) ?_
 refine w_x rfl (fun w1 h1 => x_fieldAddr rfl Tryz.runUnderlying130 rfl Tryz.sizeOf52 (by decide)) ?_
 refine w_x rfl (fun w1 h1 => x_load rfl (ld_blk ((S.step h1).blk 0 rfl) Tryz.isAgg52 rfl)) ?_
 refine w_x rfl (fun w1 h1 => x_mv rfl) ?_
 refine w_x rfl (fun w1 h1 => x_nilCheck rfl) ?_
 refine w_x rfl (fun w1 h1 => x_fieldAddr rfl Tryz.runUnderlying130 rfl Tryz.sizeOf128 (by decide)) ?_
 refine w_x rfl (fun w1 h1 => x_load rfl (ld_blk ((S.step h1).blk 0 rfl) Tryz.isAgg128 rfl)) ?_
 refine w_x rfl (fun w1 h1 => x_mv rfl) ?_
 refine w_index EUK rfl (vec_rd (S.at 2 rfl)) rfl rfl Tryz.runUnderlying128 Tryz.sizeOf138 (by omega) hm ?_
 intro b1 o2 hat3 row4
 refine w_x rfl (fun w1 h1 => x_load rfl (ld_cell Tryz.isAgg138 ((row4.le h1) 0 _ rfl))) ?_
 refine w_indexk EI rfl (vec_rd (S.at 3 rfl)) rfl rfl Tryz.runUnderlying52 Tryz.sizeOf3 (by omega) hx ?_
 intro b5 o6 hat7 row8
 refine w_x rfl (fun w1 h1 => x_load rfl (ld_cell Tryz.isAgg3 ((row8.le h1) 0 _ rfl))) ?_
 refine w_x rfl (fun w1 h1 => x_mv rfl) ?_
 refine w_x rfl (fun w1 h1 => x_sub rfl rfl (by omega)) ?_
 refine w_indexk EI rfl (vec_rd (S.at 3 rfl)) rfl rfl Tryz.runUnderlying52 Tryz.sizeOf3 (by omega) hx ?_
 intro b9 o10 hat11 row12
 refine w_nil ?_
 intro w13 hl14
 have S15 := S.step hl14
 refine l_storevi (a' := x - q) (f := 0) S15 3 rfl rfl hat11 rfl rfl Tryz.sizeOf3 hx (by decide) rfl ?_
 intro w16 S17 hk18
 refine l_nil ?_
 refine r_seq ?_
 refine r_region ?_
 refine l_m rfl ?_
 refine l_x rfl (x_geq rfl rfl) ?_
 refine l_nil ?_
 refine r_ifd rfl (fun hc25 => ?_) (fun hc25 => ?_)
 ·omega
 refine r_skip ?_
 refine r_end (rs := []) [] Tryz.func162 rfl trivial ?_
 exact ⟨by have h := S17.close; rw [Int.toNat_natCast, giveN_at hx] at h; exact h, trivial⟩

end Go.Proofs

namespace Go.Proofs
open Go Go.Vk Go.Vk.Flow

open Go.Vk.Mark
open Go.Vk.Deed (i64 rng rng_iff owners sumI sumI_cons sumI_snoc)

set_option maxHeartbeats 1000000 in
theorem c_tried0 (bb : Nat) (vc vu vn : Value) (cz : List Clm) (ms : List Nat) (cn : List Int) (hl : cz.length ≤ 10) (hcb : ∀ c ∈ cz, 0 ≤ c.number ∧ c.number ≤ 60) (hcl : cn.length = 2 ^ cz.length) (hcn : ∀ x ∈ cn, 0 ≤ x ∧ x ≤ 60) (i : Nat) (keep : Bool) (t : Nat) (x : Int) (hm : ms[i]? = some t) (hx : cn[t]? = some x) (hx1 : 1 ≤ x ∧ x ≤ 60) (w : World) (S : Own (bnR bb vc vu vn cz ms cn).fp w w [bnR bb vc vu vn cz ms cn]) :
  Cl Tryz.prog 92 #[.pointer (some ⟨bb, 0, none⟩), Value.int .i64 i, Value.int .i64 (-1), .bool keep] w fun v w' => ∃ ok : Bool, ok = canB cz (giveN cn t 1) ∧ v = .bool ok ∧ Own (bnR bb vc vu vn cz ms cn).fp w w' [if (canB cz (giveN cn t 1) && keep) = true then bnR bb vc vu vn cz ms (giveN cn t 1) else bnR bb vc vu vn cz ms cn] := by
 refine fn_of_run (args := [_, _, _, _]) 53 Tryz.func92 rfl rfl rfl fun cs => ?_
 refine r_seq ?_
 refine r_region ?_
 refine l_a rfl ?_
 refine l_nil ?_
 refine r_seq ?_
 refine r_seq ?_
 refine r_region ?_
 refine l_m rfl ?_
 refine l_x rfl (x_geq rfl rfl) ?_
 refine l_m rfl ?_
 refine l_splitd (d := 12) rfl (fun hg12 => ?_) (fun hg12 => ?_)
 ·omega
 refine l_pass rfl ?_
 refine l_pass rfl ?_
 refine l_pass rfl ?_
 refine l_pass rfl ?_
 refine l_pass rfl ?_
 refine l_pass rfl ?_
 refine l_pass rfl ?_
 refine l_pass rfl ?_
 refine l_pass rfl ?_
 refine l_pass rfl ?_
 refine l_pass rfl ?_
 refine l_pass rfl ?_
 refine l_pass rfl ?_
 refine l_pass rfl ?_
 refine l_pass rfl ?_
 refine l_pass rfl ?_
 refine l_pass rfl ?_
 refine l_pass rfl ?_
 refine l_pass rfl ?_
 refine l_pass rfl ?_
 refine l_pass rfl ?_
 refine l_pass rfl ?_
 refine l_x rfl (x_pick_f rfl rfl) ?_
 refine l_nil ?_
 refine r_false rfl ?_
 refine r_skip ?_
 refine r_seq ?_
 refine r_region ?_
 refine l_m rfl ?_
 refine l_m rfl ?_
 refine l_m rfl ?_
 refine l_call [] [] [_, _, _, _] rfl rfl Tryz.call162 rfl (c_give0 bb vc vu vn cz ms cn i 1 t x hm hx (by omega) (by omega) _ (S.lend 0 rfl)) ?_
 rintro _ w1 ⟨h2, -⟩
 have S3 := S.back 0 rfl h2
 refine l_nil ?_
 refine r_seq ?_
 refine r_region ?_
 refine l_m rfl ?_
 refine l_call [] [] [_] rfl rfl Tryz.call90 rfl (c_can bb vc vu vn cz ms (giveN cn t 1) hl hcb (giveN_len.trans hcl) (giveN_bd hx hx1.1 hcn) _ (bn_of (S3.ro 0 rfl))) ?_
 rintro _ w4 ⟨rfl, hl6⟩
 have S5 := S3.step hl6
 refine l_a rfl ?_
 refine l_nil ?_
 refine r_seq ?_
 refine r_seq ?_
 refine r_region ?_
 refine l_m rfl ?_
 refine l_x rfl (x_not rfl) ?_
 refine l_m rfl ?_
 refine l_split (d := 44) rfl (fun hg44 => ?_) (fun hg44 => ?_)
 ·skip
  refine l_pass rfl ?_
  refine l_pass rfl ?_
  refine l_x rfl (x_pick_t rfl rfl) ?_
  refine l_nil ?_
  refine r_true rfl ?_
  refine r_region ?_
  refine l_m rfl ?_
  refine l_m rfl ?_
  refine l_m rfl ?_
  refine l_call [] [] [_, _, _, _] rfl rfl Tryz.call162 rfl (c_give0 bb vc vu vn cz ms (giveN cn t 1) i (-1) t (x - 1) hm (giveN_new hx) (by omega) (by omega) _ (S5.lend 0 rfl)) ?_
  rintro _ w7 ⟨h8, -⟩
  have S9 := S5.back 0 rfl h8
  refine l_nil ?_
  refine r_seq ?_
  refine r_region ?_
  refine l_m rfl ?_
  refine l_a rfl ?_
  refine l_nil ?_
  refine r_ret (rs := [.tmp 8]) [_] Tryz.func92 rfl ⟨rfl, trivial⟩ ?_
  have h9 : canB cz (giveN cn t 1) = false := by simpa using hg44
  exact ⟨_, rfl, rfl, by rw [h9, Bool.false_and, if_neg (by decide)]; have h := S9; rw [giveN_back hx] at h; exact h⟩
 refine l_m rfl ?_
 refine l_x rfl (x_not rfl) ?_
 refine l_x rfl (x_pick_f rfl rfl) ?_
 refine l_nil ?_
 refine r_if rfl (fun hc47 => ?_) (fun hc47 => ?_)
 ·skip
  refine r_region ?_
  refine l_m rfl ?_
  refine l_m rfl ?_
  refine l_m rfl ?_
  refine l_call [] [] [_, _, _, _] rfl rfl Tryz.call162 rfl (c_give0 bb vc vu vn cz ms (giveN cn t 1) i (-1) t (x - 1) hm (giveN_new hx) (by omega) (by omega) _ (S5.lend 0 rfl)) ?_
  rintro _ w10 ⟨h11, -⟩
  have S12 := S5.back 0 rfl h11
  refine l_nil ?_
  refine r_seq ?_
  refine r_region ?_
  refine l_m rfl ?_
  refine l_a rfl ?_
  refine l_nil ?_
  refine r_ret (rs := [.tmp 8]) [_] Tryz.func92 rfl ⟨rfl, trivial⟩ ?_
  have h9 : keep = false := by simpa using hc47
  exact ⟨_, rfl, rfl, by rw [h9, Bool.and_false, if_neg (by decide)]; have h := S12; rw [giveN_back hx] at h; exact h⟩
 refine r_skip ?_
 refine r_seq ?_
 refine r_region ?_
 refine l_m rfl ?_
 refine l_a rfl ?_
 refine l_nil ?_
 refine r_ret (rs := [.tmp 8]) [_] Tryz.func92 rfl ⟨rfl, trivial⟩ ?_
 have h9 : canB cz (giveN cn t 1) = true := by simpa using hg44
 have h8 : keep = true := by simpa using hc47
 exact ⟨_, rfl, rfl, by rw [h9, h8, Bool.true_and, if_pos rfl]; exact S5⟩

set_option maxHeartbeats 1000000 in
theorem c_triedJ (bb : Nat) (vc vu vn : Value) (cz : List Clm) (ms : List Nat) (cn : List Int) (hl : cz.length ≤ 10) (hcb : ∀ c ∈ cz, 0 ≤ c.number ∧ c.number ≤ 60) (hcl : cn.length = 2 ^ cz.length) (hcn : ∀ x ∈ cn, 0 ≤ x ∧ x ≤ 60) (i : Nat) (keep : Bool) (t : Nat) (x : Int) (hm : ms[i]? = some t) (hx : cn[t]? = some x) (hx1 : 1 ≤ x ∧ x ≤ 60) (j : Nat) (c : Clm) (hc : cz[j]? = some c) (ht : t < 1024) (w : World) (S : Own (bnR bb vc vu vn cz ms cn).fp w w [bnR bb vc vu vn cz ms cn]) :
  Cl Tryz.prog 92 #[.pointer (some ⟨bb, 0, none⟩), Value.int .i64 i, Value.int .i64 j, .bool keep] w fun v w' => ((t.testBit j = false ∨ c.number = 0) ∧ v = .bool false ∧ Own (bnR bb vc vu vn cz ms cn).fp w w' [bnR bb vc vu vn cz ms cn]) ∨ (t.testBit j = true ∧ ¬ c.number = 0 ∧ ∃ ok : Bool, ok = canB (giveC cz j 1) (giveN cn t 1) ∧ v = .bool ok ∧ Own (bnR bb vc vu vn cz ms cn).fp w w' [if (canB (giveC cz j 1) (giveN cn t 1) && keep) = true then bnR bb vc vu vn (giveC cz j 1) ms (giveN cn t 1) else bnR bb vc vu vn cz ms cn]) := by
 have hjl : j < cz.length := (List.getElem?_eq_some_iff.1 hc).1
 refine fn_of_run (args := [_, _, _, _]) 53 Tryz.func92 rfl rfl rfl fun cs => ?_
 refine r_seq ?_
 refine r_region ?_
 refine l_a rfl ?_
 refine l_nil ?_
 refine r_seq ?_
 refine r_seq ?_
 refine r_region ?_
 refine l_m rfl ?_
 refine l_x rfl (x_geq rfl rfl) ?_
 refine l_m rfl ?_
 refine l_splitd (d := 12) rfl (fun hg12 => ?_) (fun hg12 => ?_)
 ·skip
  refine l_m rfl ?_
  refine l_x rfl (x_nilCheck rfl) ?_
  refine l_x rfl (x_fieldAddr rfl Tryz.runUnderlying130 rfl Tryz.sizeOf128 (by decide)) ?_
  refine l_x rfl (x_load rfl (ld_blk ((bn_of (S.ro 0 rfl)).blk) Tryz.isAgg128 rfl)) ?_
  refine l_m rfl ?_
  refine l_index EUK rfl ((bn_of (S.ro 0 rfl)).ru) rfl rfl Tryz.runUnderlying128 Tryz.sizeOf138 (by omega) hm ?_
  intro b1 o2 hat3 row4
  refine l_x rfl (x_load rfl (ld_cell Tryz.isAgg138 (row4 0 _ rfl))) ?_
  refine l_m rfl ?_
  refine l_x rfl (x_shr (a := t) (n := j) rfl rfl (show j ≤ 16 by omega)) ?_
  refine l_x rfl (x_and (a := (t / 2 ^ j)) (c := 1) rfl rfl (show (t / 2 ^ j) < 32768 from Nat.lt_of_le_of_lt (Nat.div_le_self _ _) (by omega)) (show 1 < 32768 by decide)) ?_
  refine l_x rfl (x_eql rfl rfl) ?_
  refine l_m rfl ?_
  refine l_splitd (d := 24) rfl (fun hg24 => ?_) (fun hg24 => ?_)
  ·skip
   have hbt : t.testBit j = false := bit_and0.1 hg24
   refine l_pass rfl ?_
   refine l_pass rfl ?_
   refine l_pass rfl ?_
   refine l_pass rfl ?_
   refine l_pass rfl ?_
   refine l_pass rfl ?_
   refine l_pass rfl ?_
   refine l_pass rfl ?_
   refine l_pass rfl ?_
   refine l_x rfl (x_pick_t rfl rfl) ?_
   refine l_x rfl (x_pick_t rfl rfl) ?_
   refine l_nil ?_
   refine r_true rfl ?_
   refine r_seq ?_
   refine r_region ?_
   refine l_a rfl ?_
   refine l_nil ?_
   refine r_ret (rs := [.tmp 8]) [_] Tryz.func92 rfl ⟨rfl, trivial⟩ ?_
   exact .inl ⟨.inl hbt, rfl, S⟩
  have hbt : t.testBit j = true := by
   cases e : t.testBit j with
   | true => rfl
   | false => exact absurd (bit_and0.2 e) hg24
  refine l_m rfl ?_
  refine l_x rfl (x_nilCheck rfl) ?_
  refine l_x rfl (x_fieldAddr rfl Tryz.runUnderlying130 rfl Tryz.sizeOf51 (by decide)) ?_
  refine l_x rfl (x_load rfl (ld_blk ((bn_of (S.ro 0 rfl)).blk) Tryz.isAgg51 rfl)) ?_
  refine l_m rfl ?_
  refine l_index ECL rfl ((bn_of (S.ro 0 rfl)).rc) rfl rfl Tryz.runUnderlying51 Tryz.sizeOf83 (by omega) hc ?_
  intro b5 o6 hat7 row8
  refine l_x rfl (x_fieldAddr rfl Tryz.runUnderlying83 rfl Tryz.sizeOf3 (by decide)) ?_
  refine l_x rfl (x_load rfl (ld_cell Tryz.isAgg3 (row8 1 _ rfl))) ?_
  refine l_x rfl (x_eql rfl rfl) ?_
  refine l_x rfl (x_pick_f rfl rfl) ?_
  refine l_x rfl (x_pick_t rfl rfl) ?_
  refine l_nil ?_
  refine r_ifd rfl (fun hc35 => ?_) (fun hc35 => ?_)
  ·skip
   refine r_seq ?_
   refine r_region ?_
   refine l_a rfl ?_
   refine l_nil ?_
   refine r_ret (rs := [.tmp 8]) [_] Tryz.func92 rfl ⟨rfl, trivial⟩ ?_
   exact .inl ⟨.inr hc35, rfl, S⟩
  have hn0 : ¬ c.number = 0 := hc35
  refine r_skip ?_
  refine r_seq ?_
  refine r_region ?_
  refine l_m rfl ?_
  refine l_m rfl ?_
  refine l_m rfl ?_
  refine l_call [] [] [_, _, _, _] rfl rfl Tryz.call162 rfl (c_giveJ bb vc vu vn cz ms cn i j 1 t x c hm hx hc (by omega) (by omega) (by have := hcb c (List.mem_of_getElem? hc); omega) _ (S.lend 0 rfl)) ?_
  rintro _ w9 ⟨h10, -⟩
  have S11 := S.back 0 rfl h10
  refine l_nil ?_
  refine r_seq ?_
  refine r_region ?_
  refine l_m rfl ?_
  refine l_call [] [] [_] rfl rfl Tryz.call90 rfl (c_can bb vc vu vn (giveC cz j 1) ms (giveN cn t 1) (by rw [giveC_len]; exact hl) (giveC_bd hc hn0 hcb) (by rw [giveC_len]; exact giveN_len.trans hcl) (giveN_bd hx hx1.1 hcn) _ (bn_of (S11.ro 0 rfl))) ?_
  rintro _ w12 ⟨rfl, hl14⟩
  have S13 := S11.step hl14
  refine l_a rfl ?_
  refine l_nil ?_
  refine r_seq ?_
  refine r_seq ?_
  refine r_region ?_
  refine l_m rfl ?_
  refine l_x rfl (x_not rfl) ?_
  refine l_m rfl ?_
  refine l_split (d := 44) rfl (fun hg44 => ?_) (fun hg44 => ?_)
  ·skip
   refine l_pass rfl ?_
   refine l_pass rfl ?_
   refine l_x rfl (x_pick_t rfl rfl) ?_
   refine l_nil ?_
   refine r_true rfl ?_
   refine r_region ?_
   refine l_m rfl ?_
   refine l_m rfl ?_
   refine l_m rfl ?_
   refine l_call [] [] [_, _, _, _] rfl rfl Tryz.call162 rfl (c_giveJ bb vc vu vn (giveC cz j 1) ms (giveN cn t 1) i j (-1) t (x - 1) ⟨c.owner, c.number - 1⟩ hm (giveN_new hx) (giveC_new hc) (by omega) (by omega) (by have := hcb c (List.mem_of_getElem? hc); dsimp only; omega) _ (S13.lend 0 rfl)) ?_
   rintro _ w15 ⟨h16, -⟩
   have S17 := S13.back 0 rfl h16
   refine l_nil ?_
   refine r_seq ?_
   refine r_region ?_
   refine l_m rfl ?_
   refine l_a rfl ?_
   refine l_nil ?_
   refine r_ret (rs := [.tmp 8]) [_] Tryz.func92 rfl ⟨rfl, trivial⟩ ?_
   refine .inr ⟨hbt, hn0, ?_⟩
   have h9 : canB (giveC cz j 1) (giveN cn t 1) = false := by simpa using hg44
   exact ⟨_, rfl, rfl, by rw [h9, Bool.false_and, if_neg (by decide)]; have h := S17; rw [giveN_back hx, giveC_back hc] at h; exact h⟩
  refine l_m rfl ?_
  refine l_x rfl (x_not rfl) ?_
  refine l_x rfl (x_pick_f rfl rfl) ?_
  refine l_nil ?_
  refine r_if rfl (fun hc47 => ?_) (fun hc47 => ?_)
  ·skip
   refine r_region ?_
   refine l_m rfl ?_
   refine l_m rfl ?_
   refine l_m rfl ?_
   refine l_call [] [] [_, _, _, _] rfl rfl Tryz.call162 rfl (c_giveJ bb vc vu vn (giveC cz j 1) ms (giveN cn t 1) i j (-1) t (x - 1) ⟨c.owner, c.number - 1⟩ hm (giveN_new hx) (giveC_new hc) (by omega) (by omega) (by have := hcb c (List.mem_of_getElem? hc); dsimp only; omega) _ (S13.lend 0 rfl)) ?_
   rintro _ w18 ⟨h19, -⟩
   have S20 := S13.back 0 rfl h19
   refine l_nil ?_
   refine r_seq ?_
   refine r_region ?_
   refine l_m rfl ?_
   refine l_a rfl ?_
   refine l_nil ?_
   refine r_ret (rs := [.tmp 8]) [_] Tryz.func92 rfl ⟨rfl, trivial⟩ ?_
   refine .inr ⟨hbt, hn0, ?_⟩
   have h9 : keep = false := by simpa using hc47
   exact ⟨_, rfl, rfl, by rw [h9, Bool.and_false, if_neg (by decide)]; have h := S20; rw [giveN_back hx, giveC_back hc] at h; exact h⟩
  refine r_skip ?_
  refine r_seq ?_
  refine r_region ?_
  refine l_m rfl ?_
  refine l_a rfl ?_
  refine l_nil ?_
  refine r_ret (rs := [.tmp 8]) [_] Tryz.func92 rfl ⟨rfl, trivial⟩ ?_
  refine .inr ⟨hbt, hn0, ?_⟩
  have h9 : canB (giveC cz j 1) (giveN cn t 1) = true := by simpa using hg44
  have h8 : keep = true := by simpa using hc47
  exact ⟨_, rfl, rfl, by rw [h9, h8, Bool.true_and, if_pos rfl]; exact S13⟩
 omega

end Go.Proofs

namespace Go.Proofs
open Go Go.Vk Go.Vk.Flow

open Go.Vk.Mark
open Go.Vk.Deed (i64 rng rng_iff owners sumI sumI_cons sumI_snoc)
open Go.Vk.Deed (cmpI)

set_option maxHeartbeats 2000000 in
theorem c_values1 (l : List Clm) (vc : Value) (hml : l.length ≤ 1000) (b1 yl : Nat) (X : Nat → Prop) (u : World) (hC : ∀ wz, Keep X u wz → Rd ECL wz vc l) (h1 : ∀ wz, Keep X u wz → Blk wz b1 [vc] 51) (R : List Clm → Rsc → Prop)
  (hy : ∀ t r o w1, R t r → (∃ s, l = t ++ o :: s) → Keep X u w1 → Own r.fp w1 w1 [r] → Yl Tryz.prog yl #[Value.agg (encCl o).toArray] w1 fun v w2 => ∃ r', v = .bool true ∧ R (t ++ [o]) r' ∧ Own r.fp w1 w2 [r']) (r : Rsc) (hr : R [] r) (w : World) (S : Own X u w [r]) :
  Cl Tryz.prog 202 #[.func (.yield yl) #[] #[], .pointer (some ⟨b1, 0, none⟩)] w fun _ w' => ∃ r', R l r' ∧ Own X u w' [r'] := by
 refine fn_of_run (args := [_, _]) 16 Tryz.func202 rfl rfl rfl fun cs => ?_
 refine r_seq ?_
 refine r_region ?_
 refine l_x rfl (x_load rfl (ld_blk (h1 _ S.keep) Tryz.isAgg51 rfl)) ?_
 refine l_x rfl (x_len (hC _ S.keep) rfl Tryz.runUnderlying51) ?_
 refine l_m rfl ?_
 refine l_nil ?_
 refine r_block ?_
 refine r_loop (G := Nat × Rsc) (fun ⟨i, r1⟩ => l.length - i) (fun ⟨i, r1⟩ => [(0, .func (.yield yl) #[] #[]), (5, vc), (6, Value.int .i64 l.length), (7, Value.int .i64 i)]) (fun ⟨i, r1⟩ w' => (i ≤ l.length) ∧ (R (l.take i) r1) ∧ Own X u w' [r1]) (0, r) ⟨rfl, rfl, rfl, rfl, trivial⟩ ⟨Nat.zero_le _, by rw [List.take_zero]; exact hr, (S.take 1)⟩ ?_
 rintro ⟨i, r1⟩ ρ w1 ⟨hi, hR, S1⟩ IH
 refine r_seq ?_
 refine r_region ?_
 refine l_x rfl (x_lss rfl rfl) ?_
 refine l_nil ?_
 refine r_seq ?_
 refine r_ifd rfl (fun hc8 => ?_) (fun hc8 => ?_)
 ·skip
  obtain ⟨a, ha⟩ : ∃ a, l[i]? = some a := ⟨_, List.getElem?_eq_getElem (by omega)⟩
  refine r_skip ?_
  refine r_seq ?_
  refine r_block ?_
  refine r_seq ?_
  refine r_region ?_
  refine l_index ECL rfl (hC _ S1.keep) rfl rfl Tryz.runUnderlying51 Tryz.sizeOf83 (by omega) ha ?_
  intro b1 o2 hat3 row4
  refine l_x rfl (x_load rfl (ld_row Tryz.isAgg83 Tryz.sizeOf83 rfl row4)) ?_
  refine l_alloc S1 rfl Tryz.zeroValue83 rfl ?_
  intro b8 w5 S6 hl7
  refine l_stores S6 1 rfl rfl rfl rfl (ECL.one _) Tryz.sizeOf83 (by first | exact Nat.le_refl _ | simp) (splice_all rfl) ?_
  intro w9 S10 hk11
  refine l_nil ?_
  refine r_seq ?_
  refine r_region ?_
  refine l_m rfl ?_
  refine l_x rfl (x_load rfl (ld_blks (S10.blk 1 rfl) Tryz.isAgg83 Tryz.sizeOf83 rfl rfl)) ?_
  refine l_yield [_] rfl rfl rfl (hy (l.take i) r1 a _ hR (take_in ha) S10.keep (S10.lend 0 rfl)) ?_
  rintro _ w12 ⟨r15, rfl, hRr15, hback13⟩
  have S14 := S10.back 0 rfl hback13
  refine l_x rfl (x_not rfl) ?_
  refine l_nil ?_
  refine r_false rfl ?_
  refine r_skip ?_
  refine r_inBlock ?_
  refine r_region ?_
  refine l_x rfl (x_add rfl rfl (by omega)) ?_
  refine l_m rfl ?_
  refine l_nil ?_
  exact IH (i + 1, r15) _ _ (by dsimp only; omega) ⟨rfl, rfl, rfl, rfl, trivial⟩ ⟨by omega, by rw [take_sn ha]; exact hRr15, (S14.take 1)⟩
 have hi : i = l.length := by omega
 subst hi
 rw [List.take_length] at hR
 refine r_exit rfl ?_
 refine r_end (rs := []) [] Tryz.func202 rfl trivial ?_
 exact ⟨_, hR, S1⟩

set_option maxHeartbeats 2000000 in
theorem c_AppendSeqC (l : List Clm) (vc : Value) (hml : l.length ≤ 1000) (b1 : Nat) (w : World) (hC : Rd ECL w vc l) (h1 : Blk w b1 [vc] 51) :
  Cl Tryz.prog 228 #[.slice none 0 0, .func (.func 202) #[] #[.pointer (some ⟨b1, 0, none⟩)]] w fun v w' => New w w' (vec ECL v l) ∧ Le w w' := by
 refine fn_of_run (args := [_, _]) 13 Tryz.func228 rfl rfl rfl fun cs => ?_
 have S := Own.start (X := nob) w
 refine r_seq ?_
 refine r_region ?_
 refine l_box S rfl rfl ?_
 intro b4 w1 S2 hl3
 have S5 := S2.nilvec (E := ECL)
 refine l_a rfl ?_
 refine l_nil ?_
 refine r_seq ?_
 refine r_seq ?_
 refine r_region ?_
 refine l_m rfl ?_
 refine l_nil ?_
 refine r_block ?_
 refine r_rangeFunc [] [_] S5 rfl rfl Tryz.call202 ?_
 intro D6 l7 w8 S9 hl10
 have S11 : Own _ _ _ [_, _, _, _] := S9.pick [0, 1, 2, 3] (by decide) rfl
 have S12 := Own.pack (A := []) (L := [_, _, _, _]) S11
 refine (c_values1 l vc hml b1 _ nob w (fun _ hk => hC.le hk) (fun _ hk => h1.keep hk id) (fun t r => ∃ v0, r = pack [blk b4 [v0] 51, vec ECL v0 t, _, _]) ?_ _ ⟨_, rfl⟩ _ S12).mono ?_
 ·skip
  rintro t _ a w1 ⟨v0, rfl⟩ ⟨s, hin⟩ hK hS
  have S13 := hS.open
  refine yl_of_run (S13.obj 3 rfl) rfl (fun c cs => ?_)
  refine r_region ?_
  refine l_alloc S13 rfl Tryz.zeroValue83 rfl ?_
  intro b17 w14 S15 hl16
  refine l_stores (vs := [_, _]) S15 4 rfl rfl rfl rfl (ones_cons rfl (ones_cons rfl ones_nil)) Tryz.sizeOf83 (by first | exact Nat.le_refl _ | simp) (splice_all rfl) ?_
  intro w18 S19 hk20
  refine l_nil ?_
  refine r_beginRound S19 3 rfl rfl ?_
  intro w21 S22 hk23
  refine r_block ?_
  refine r_region ?_
  refine l_x rfl (x_load rfl (ld_blk (S22.blk 0 rfl) Tryz.isAgg51 rfl)) ?_
  refine l_x rfl (x_load rfl (ld_blks (S22.blk 4 rfl) Tryz.isAgg83 Tryz.sizeOf83 rfl rfl)) ?_
  refine l_buildSlice ECL [a] S22 rfl Tryz.runUnderlying51 Tryz.sizeOf83 Tryz.zeroValue83 rfl ⟨rfl, rfl, trivial⟩ (Nat.le_of_ble_eq_true rfl) ?_
  intro v27 w24 S25 hl26
  refine l_append ECL S25 1 rfl rfl rfl rfl (vec_rd (S25.at 5 rfl)) Tryz.underlying51 info83 rfl rfl rfl (by have := pre_le hin; unfold maxLen; rw [List.length_singleton]; omega) (by have := pre_le hin; rw [List.length_singleton]; show _ * 16 ≤ _; omega) ?_
  intro v31 w28 S29 hk30 hv32
  refine l_storeq (c' := [_]) (v := v31) S29 0 rfl rfl rfl rfl (Rd.one (vec_rd (S29.at 1 rfl))) Tryz.sizeOf51 (by first | (simp; done) | exact Nat.le_of_ble_eq_true rfl) rfl ?_
  intro w33 S34 hk35
  refine l_nil ?_
  refine r_inBlock ?_
  refine r_roundEnd S34 3 rfl ?_
  intro w36 S37
  exact ⟨_, rfl, ⟨_, rfl⟩, (S37.take 4).close⟩
 rintro _ w38 ⟨_, ⟨v9, rfl⟩, hback39⟩
 have S40 := Own.unpack (A := []) (L := [_, _, _, _]) hback39
 refine r_endRange S40 3 rfl rfl ?_
 intro w41 S42 hk43
 refine r_inBlock ?_
 refine r_seq ?_
 refine r_region ?_
 refine l_x rfl (x_load rfl (ld_blk (S42.blk 0 rfl) Tryz.isAgg51 rfl)) ?_
 refine l_a rfl ?_
 refine l_nil ?_
 refine r_retL rfl ?_
 refine leave_mark S42 2 rfl ?_
 intro w44 S45 hk46
 refine leave_done (rs := [.tmp 4]) [_] Tryz.func228 rfl ⟨rfl, trivial⟩ ?_
 exact ⟨S45.new 1 rfl, S45.le⟩

theorem c_CollectC (l : List Clm) (vc : Value) (hml : l.length ≤ 1000) (b1 : Nat) (w : World) (hC : Rd ECL w vc l) (h1 : Blk w b1 [vc] 51) :
  Cl Tryz.prog 200 #[.func (.func 202) #[] #[.pointer (some ⟨b1, 0, none⟩)]] w fun v w' => New w w' (vec ECL v l) ∧ Le w w' := by
 refine fn_of_run (args := [_]) 5 Tryz.func200 rfl rfl rfl fun cs => ?_
 have S := Own.start (X := nob) w
 refine r_seq ?_
 refine r_region ?_
 refine l_a rfl ?_
 refine l_nil ?_
 refine r_seq ?_
 refine r_region ?_
 refine l_m rfl ?_
 refine l_call [] [] [_, _] rfl rfl Tryz.call228 rfl (c_AppendSeqC l vc hml b1 _ (hC.le S.le) (h1.keep S.le id)) ?_
 rintro v41 w1 ⟨hN41, hl41⟩
 have S2 := S.add hl41 hN41
 refine l_a rfl ?_
 refine l_nil ?_
 refine r_ret (rs := [.tmp 2]) [_] Tryz.func200 rfl ⟨rfl, trivial⟩ ?_
 exact ⟨S2.new 0 rfl, S2.le⟩

theorem c_SortedFuncC (l : List Clm) (vc : Value) (hml : l.length ≤ 1000) (b1 : Nat) (w : World) (hC : Rd ECL w vc l) (h1 : Blk w b1 [vc] 51) :
  Cl Tryz.prog 159 #[.func (.func 202) #[] #[.pointer (some ⟨b1, 0, none⟩)], .func (.func 161) #[] #[]] w fun v w' => ∃ l', l'.Perm l ∧ SortedL (fun x y : Clm => cmpI x.owner y.owner) l' ∧ New w w' (vec ECL v l') ∧ Le w w' := by
 refine fn_of_run (args := [_, _]) 12 Tryz.func159 rfl rfl rfl fun cs => ?_
 have S := Own.start (X := nob) w
 refine r_seq ?_
 refine r_region ?_
 refine l_a rfl ?_
 refine l_nil ?_
 refine r_seq ?_
 refine r_region ?_
 refine l_m rfl ?_
 refine l_call [] [] [_] rfl rfl Tryz.call200 rfl (c_CollectC l vc hml b1 _ (hC.le S.le) (h1.keep S.le id)) ?_
 rintro v71 w1 ⟨hN71, hl71⟩
 have S2 := S.add hl71 hN71
 refine l_a rfl ?_
 refine l_nil ?_
 refine r_seq ?_
 refine r_region ?_
 refine l_m rfl ?_
 refine l_m rfl ?_
 refine l_call [] [] [_, _] rfl rfl Tryz.call201 rfl (c_SortClm _ _ _ (S2.lend 0 rfl) (by omega)) ?_
 rintro _ w3 ⟨l', hp', hs', h4⟩
 have S5 := S2.back 0 rfl h4
 refine l_nil ?_
 refine r_seq ?_
 refine r_region ?_
 refine l_m rfl ?_
 refine l_a rfl ?_
 refine l_nil ?_
 refine r_ret (rs := [.tmp 4]) [_] Tryz.func159 rfl ⟨rfl, trivial⟩ ?_
 exact ⟨l', hp', hs', S5.new 0 rfl, S5.le⟩

theorem c_Values (l : List Clm) (vc : Value) (w : World) (hC : Rd ECL w vc l) :
  Cl Tryz.prog 160 #[vc] w fun v w' => ∃ b1, v = .func (.func 202) #[] #[.pointer (some ⟨b1, 0, none⟩)] ∧ Own nob w w' [blk b1 [vc] 51] := by
 refine fn_of_run (args := [_]) 4 Tryz.func160 rfl rfl rfl fun cs => ?_
 have S := Own.start (X := nob) w
 refine r_seq ?_
 refine r_region ?_
 refine l_box S rfl (Rd.cells (hC.le S.le)) ?_
 intro b4 w1 S2 hl3
 refine l_a rfl ?_
 refine l_nil ?_
 refine r_seq ?_
 refine r_region ?_
 refine l_x rfl (x_func rfl rfl) ?_
 refine l_a rfl ?_
 refine l_nil ?_
 refine r_ret (rs := [.tmp 2]) [_] Tryz.func160 rfl ⟨rfl, trivial⟩ ?_
 exact ⟨_, rfl, S2⟩

end Go.Proofs

namespace Go.Proofs
open Go Go.Vk Go.Vk.Flow

open Go.Vk.Mark
open Go.Vk.Deed (i64 rng rng_iff owners sumI sumI_cons sumI_snoc)
open Go.Vk.Deed (cmpI)

theorem info138 : Tryz.prog.info? 138 = some Tryz.t138 := by kernel_rfl
theorem kp3 {w w' : World} {b D l : Nat} {c c' : List Value} {T T' : TypeId} {o o' x x' : Obj} (h : Keep (pack [blk b c T, obj D o, obj l x]).fp w w') : Keep (pack [blk b c' T', obj D o', obj l x']).fp w w' :=
 h.mono fun z _ ⟨r, hr, hz⟩ => by
  simp only [List.mem_cons, List.not_mem_nil, or_false] at hr
  rcases hr with rfl | rfl | rfl
  ·exact ⟨blk b c' T', by simp, hz⟩
  ·exact ⟨obj D o', by simp, hz⟩
  exact ⟨obj l x', by simp, hz⟩

set_option maxHeartbeats 4000000 in
theorem c_seated (b : Sm) (vm vf : Value) (day : Int) (found : List Sg) (vs : Value) (cs9 : List Clm) (vq : Value) (right : Bool) (hm : found.length ≤ 9223372036854775807) (hmc : cs9.length ≤ 9223372036854775807) (hsg : ∀ t ∈ found, SgOk t) (w : World) (hB : SmR 39 41 w vm vf b) (hF : Rd ESG w vs found) (hC : Rd ECL w vq cs9) :
  Cl Tryz.prog 89 #[.agg #[vm, vf], Value.int .i64 day, vs, vq, .bool right] w fun v w' => (∃ e, e ≠ 0 ∧ v = .tuple #[.pointer none, .int .i64 e] ∧ e = beginE b day right found cs9 ∧ Le w w') ∨ (∃ bb vc vu vn cz, v = .tuple #[.pointer (some ⟨bb, 0, none⟩), Value.int .i64 0] ∧ beginE b day right found cs9 = 0 ∧ cz.Perm cs9 ∧ SortedL (fun x y : Clm => cmpI x.owner y.owner) cz ∧ New w w' (bnR bb vc vu vn cz (found.map fun t => mskP cz (ownersOf b day t)) (cntOf (found.map fun t => mskP cz (ownersOf b day t)) (2 ^ cz.length))) ∧ Le w w') := by
 refine fn_of_run (args := [_, _, _, _, _]) 90 Tryz.func89 rfl rfl rfl fun cs => ?_
 have S := Own.start (X := nob) w
 refine r_seq ?_
 refine r_region ?_
 refine l_box S rfl rfl ?_
 intro b4 w1 S2 hl3
 refine l_a rfl ?_
 refine l_a rfl ?_
 refine l_nil ?_
 refine r_seq ?_
 refine r_region ?_
 refine l_x rfl (x_load rfl (ld_blks (S2.blk 0 rfl) Tryz.isAgg25 Tryz.sizeOf25 rfl rfl)) ?_
 refine l_m rfl ?_
 refine l_m rfl ?_
 refine l_call [] [] [_, _, _] rfl rfl Tryz.call73 rfl (c_opened b vm vf day right _ (hB.le S2.le)) ?_
 rintro _ w5 (⟨e9, hne9, rfl, he9, hl245⟩ | ⟨bb9, vm9, mm9, g9, rfl, ho9, hK9, hN245, hl245⟩)
 ·skip
  have S6 := S2.step hl245
  refine l_m rfl ?_
  refine l_x rfl (x_extract rfl rfl) ?_
  refine l_x rfl (x_extract rfl rfl) ?_
  refine l_a rfl ?_
  refine l_a rfl ?_
  refine l_nil ?_
  refine r_seq ?_
  refine r_seq ?_
  refine r_region ?_
  refine l_m rfl ?_
  refine l_x rfl (x_eql rfl rfl) ?_
  refine l_nil ?_
  refine r_ifd rfl (fun hc28 => ?_) (fun hc28 => ?_)
  ·exact absurd hc28 hne9
  refine r_skip ?_
  refine r_seq ?_
  refine r_seq ?_
  refine r_region ?_
  refine l_m rfl ?_
  refine l_x rfl (x_eql rfl rfl) ?_
  refine l_nil ?_
  refine r_ifd rfl (fun hc32 => ?_) (fun hc32 => ?_)
  ·exact absurd hc32 hne9
  refine r_skip ?_
  refine r_seq ?_
  refine r_seq ?_
  refine r_region ?_
  refine l_m rfl ?_
  refine l_x rfl (x_neq rfl rfl) ?_
  refine l_nil ?_
  refine r_ifd rfl (fun hc36 => ?_) (fun hc36 => ?_)
  ·skip
   refine r_seq ?_
   refine r_region ?_
   refine l_m rfl ?_
   refine l_a rfl ?_
   refine l_a rfl ?_
   refine l_nil ?_
   refine r_ret (rs := [.tmp 10, .tmp 11]) [_, _] Tryz.func89 rfl ⟨rfl, rfl, trivial⟩ ?_
   exact .inl ⟨e9, hne9, rfl, bgE_1 hne9 he9, S6.le⟩
  exact absurd hne9 hc36
 have S7 := S2.add hl245 hN245
 refine l_m rfl ?_
 refine l_x rfl (x_extract rfl rfl) ?_
 refine l_x rfl (x_extract rfl rfl) ?_
 refine l_a rfl ?_
 refine l_a rfl ?_
 refine l_nil ?_
 refine r_seq ?_
 refine r_seq ?_
 refine r_region ?_
 refine l_m rfl ?_
 refine l_x rfl (x_eql rfl rfl) ?_
 refine l_nil ?_
 refine r_ifd rfl (fun hc28 => ?_) (fun hc28 => ?_)
 ·skip
  refine r_region ?_
  refine l_m rfl ?_
  refine l_call [] [] [_] rfl rfl Tryz.call125 rfl (c_found found vs hm _ (hF.le S7.le)) ?_
  rintro _ w8 ⟨rfl, hl10⟩
  have S9 := S7.step hl10
  refine l_a rfl ?_
  refine l_nil ?_
  refine r_seq ?_
  refine r_seq ?_
  refine r_region ?_
  refine l_m rfl ?_
  refine l_x rfl (x_eql rfl rfl) ?_
  refine l_nil ?_
  refine r_ifd rfl (fun hc32 => ?_) (fun hc32 => ?_)
  ·skip
   refine r_region ?_
   refine l_m rfl ?_
   refine l_call [] [] [_] rfl rfl Tryz.call158 rfl (c_isClaims cs9 vq hmc _ (hC.le S9.le)) ?_
   rintro _ w11 ⟨rfl, hl13⟩
   have S12 := S9.step hl13
   refine l_a rfl ?_
   refine l_nil ?_
   refine r_seq ?_
   refine r_seq ?_
   refine r_region ?_
   refine l_m rfl ?_
   refine l_x rfl (x_neq rfl rfl) ?_
   refine l_nil ?_
   refine r_ifd rfl (fun hc36 => ?_) (fun hc36 => ?_)
   ·skip
    refine r_seq ?_
    refine r_region ?_
    refine l_m rfl ?_
    refine l_a rfl ?_
    refine l_a rfl ?_
    refine l_nil ?_
    refine r_ret (rs := [.tmp 10, .tmp 11]) [_, _] Tryz.func89 rfl ⟨rfl, rfl, trivial⟩ ?_
    exact .inl ⟨_, hc36, rfl, bgE_3 ho9 hc32, S12.le⟩
   have hfo := found_ok hc32
   have hc0 : claimE cs9 = 0 := Decidable.not_not.1 hc36
   have hco := claim_ok hc0
   refine r_skip ?_
   refine r_seq ?_
   refine r_region ?_
   refine l_m rfl ?_
   refine l_call [] [] [_] rfl rfl Tryz.call160 rfl (c_Values cs9 vq _ (hC.le S12.le)) ?_
   rintro _ w14 ⟨b17, rfl, h16⟩
   have S15 := S12.join h16
   refine l_call [] [] [_, _] rfl rfl Tryz.call159 rfl (c_SortedFuncC cs9 vq (by omega) b17 _ (hC.le S15.le) (S15.blk 2 rfl)) ?_
   rintro vc9 w18 ⟨cz, hp9, hs9, hN4018, hl4018⟩
   have S19 := S15.add hl4018 hN4018
   have hzl : cz.length = cs9.length := hp9.length_eq
   have hz10 : cz.length ≤ 10 := by omega
   have hn1 : 2 ^ cz.length ≤ 1024 := Nat.pow_le_pow_right (n := 2) (by omega) hz10
   have hn2 : 2 ^ cs9.length ≤ 1024 := by rw [← hzl]; exact hn1
   refine l_x rfl (x_buildS (out := [_, _, _]) (ss := [1, 1, 1]) Tryz.zeroValue130 rfl Tryz.runUnderlying130 ⟨Tryz.sizeOf51, Tryz.sizeOf128, Tryz.sizeOf52, trivial⟩ (fill_cons rfl (Rd.cells (vec_rd (S19.at 3 rfl))) rfl (Nat.le_of_ble_eq_true rfl) fill_nil)) ?_
   have S20 := S19.nilvec (E := EUK)
   refine l_box S20 rfl rfl ?_
   intro b24 w21 S22 hl23
   refine l_alloc S22 rfl Tryz.zeroValue124 rfl ?_
   intro b28 w25 S26 hl27
   refine l_storeq (c' := [_]) S26 6 rfl rfl rfl rfl rfl Tryz.sizeOf124 (by first | (simp; done) | exact Nat.le_of_ble_eq_true rfl) rfl ?_
   intro w29 S30 hk31
   refine l_nil ?_
   refine r_seq ?_
   refine r_drawE 7 nob Tryz.mixed (by kernel_rfl) ?_
   intro w32 hl33
   have S34 := S30.step hl33
   refine e_exact 0 _ (by kernel_rfl) rfl rfl (by kernel_rfl) rfl (ex_x rfl (fun w1 h1 => x_load rfl (ld_blk ((S34.step h1).blk 6 rfl) Tryz.isAgg124 rfl))) ?_
   refine e_exact 1 _ (by kernel_rfl) rfl rfl (by kernel_rfl) rfl (ex_x rfl (fun w1 h1 => x_mv rfl)) ?_
   refine e_exact 2 _ (by kernel_rfl) rfl rfl (by kernel_rfl) rfl (ex_x rfl (fun w1 h1 => x_len (hC.le (S34.step h1).le) rfl Tryz.runUnderlying51)) ?_
   refine e_exact 3 _ (by kernel_rfl) rfl rfl (by kernel_rfl) rfl (ex_x rfl (fun w1 h1 => x_shl (a := 1) (n := cs9.length) rfl rfl (show cs9.length ≤ 64 by omega) (show 1 * 2 ^ cs9.length < 2 ^ 63 by rw [Nat.one_mul]; exact Nat.pow_lt_pow_right (by omega) (by omega)))) ?_
   refine e_next [4] (by kernel_rfl) (by kernel_rfl) ⟨⟨_, _, rfl, rfl, ?_⟩, trivial⟩
   refine s_make EI 0 S34 rfl Tryz.runUnderlying52 Tryz.sizeOf3 Tryz.typeInfo3 Tryz.zeroValue3 rfl rfl rfl rfl (Nat.le_refl _) (by unfold maxLen; omega) (by show _ * 8 ≤ _; omega) ?_
   intro v38 w35 hv39 S36 hl37
   refine ⟨.of_le hl37, ?_⟩
   refine e_exact 5 _ (by kernel_rfl) rfl rfl (by kernel_rfl) rfl (ex_x rfl (fun w1 h1 => x_nilCheck rfl)) ?_
   refine e_exact 6 _ (by kernel_rfl) rfl rfl (by kernel_rfl) rfl (ex_x rfl (fun w1 h1 => x_fieldAddr rfl Tryz.runUnderlying130 rfl Tryz.sizeOf52 (by decide))) ?_
   refine e_done (by kernel_rfl) ?_
   refine l_storeq (c' := [_, _, _]) (v := v38) S36 5 rfl rfl rfl rfl (Rd.one (vec_rd (S36.at 7 rfl))) Tryz.sizeOf52 (by first | (simp; done) | exact Nat.le_of_ble_eq_true rfl) rfl ?_
   intro w40 S41 hk42
   refine l_nil ?_
   refine r_seq ?_
   refine r_seq ?_
   refine r_region ?_
   refine l_m rfl ?_
   refine l_x rfl (x_len (hF.le S41.le) rfl Tryz.runUnderlying50) ?_
   refine l_m rfl ?_
   refine l_nil ?_
   refine r_block ?_
   refine r_loopD (G := Nat × Value × List Nat) (fun ⟨i, vu9, Ds⟩ => found.length - i) (fun ⟨i, vu9, Ds⟩ => [(2, vs), (3, vq), (12, .pointer (some ⟨bb9, 0, none⟩)), (14, .pointer (some ⟨b28, 0, none⟩)), (50, vs), (51, Value.int .i64 found.length), (52, Value.int .i64 i)]) (fun ⟨i, vu9, Ds⟩ w' => (i ≤ found.length) ∧ Own nob w w' [bdP bb9 vm9 mm9 g9 b day, blk b24 [vc9, vu9, v38] 130, vec ECL vc9 cz, vec EUK vu9 ((found.take i).map fun t => mskP cz (ownersOf b day t)), vec EI v38 (cntOf ((found.take i).map fun t => mskP cz (ownersOf b day t)) (2 ^ cz.length)), blk b28 [.pointer (some ⟨b24, 0, none⟩)] 124, marksR Ds]) (fun ⟨i, vu9, Ds⟩ => Ds.map Go.Vk.mark ++ []) (0, .slice none 0 0, []) ⟨rfl, rfl, rfl, rfl, rfl, rfl, rfl, trivial⟩ ⟨Nat.zero_le _, (by have h := S41.pick (L' := [_, _, _, _, _, _]) [1, 5, 3, 4, 7, 6] (by decide) rfl; rw [show 1 * 2 ^ cs9.length = 2 ^ cz.length by rw [Nat.one_mul, hzl], cnt_nil] at h; exact h.nopack)⟩ rfl ?_
   rintro ⟨i, vu9, Ds⟩ ρ w1 ⟨hi, S1⟩ IH
   refine r_seq ?_
   refine r_region ?_
   refine l_x rfl (x_lss rfl rfl) ?_
   refine l_nil ?_
   refine r_seq ?_
   refine r_ifd rfl (fun hc53 => ?_) (fun hc53 => ?_)
   ·skip
    obtain ⟨t, hx⟩ : ∃ t, found[i]? = some t := ⟨_, List.getElem?_eq_getElem (by omega)⟩
    have htm := List.mem_of_getElem? hx
    have hml := msk_lt (cz := cz) (l := ownersOf b day t)
    have hmi : (found.take (i + 1)).map (fun t => mskP cz (ownersOf b day t)) = ((found.take i).map fun t => mskP cz (ownersOf b day t)) ++ [mskP cz (ownersOf b day t)] := by rw [take_sn hx, List.map_append]; rfl
    have hcg := cnt_get (ms := ((found.take i).map fun t => mskP cz (ownersOf b day t))) (N := 2 ^ cz.length) hml
    have hcd := cnt_bd (ms := ((found.take i).map fun t => mskP cz (ownersOf b day t))) (m := mskP cz (ownersOf b day t))
    rw [List.length_map, List.length_take] at hcd
    refine r_skip ?_
    refine r_seq ?_
    refine r_block ?_
    refine r_seq ?_
    refine r_region ?_
    refine l_index ESG rfl (hF.le S1.le) rfl rfl Tryz.runUnderlying50 Tryz.sizeOf30 (by omega) hx ?_
    intro b43 o44 hat45 row46
    refine l_x rfl (x_load rfl (ld_row Tryz.isAgg30 Tryz.sizeOf30 rfl row46)) ?_
    refine l_alloc S1 rfl Tryz.zeroValue30 rfl ?_
    intro b50 w47 S48 hl49
    refine l_stores S48 7 rfl rfl rfl rfl (ESG.one _) Tryz.sizeOf30 (by first | exact Nat.le_refl _ | simp) (splice_all rfl) ?_
    intro w51 S52 hk53
    refine l_nil ?_
    refine r_seq ?_
    refine r_region ?_
    refine l_alloc S52 rfl Tryz.zeroValue138 rfl ?_
    intro b57 w54 S55 hl56
    refine l_nil ?_
    refine r_seq ?_
    refine r_seq ?_
    refine r_region ?_
    refine l_m rfl ?_
    refine l_x rfl (x_load rfl (ld_blks (S55.blk 7 rfl) Tryz.isAgg30 Tryz.sizeOf30 rfl rfl)) ?_
    refine l_call [] [] [_, _] rfl rfl Tryz.call110 rfl (c_owners bb9 vm9 mm9 g9 b day t _ (bd_of (S55.ro 0 rfl) hK9)) ?_
    rintro _ w58 ⟨b61, b62, rfl, h60⟩
    have S59 := S55.join h60
    refine l_nil ?_
    refine r_block ?_
    refine r_rangeFunc [] [_, _] S59 rfl rfl Tryz.call173 ?_
    intro D63 l64 w65 S66 hl67
    have S68 : Own _ _ _ [_, _, _, _, _, _, _, _, _, _, _, _, _] := S66.pick [0, 1, 2, 3, 4, 5, 6, 7, 9, 10, 8, 11, 12] (by decide) rfl
    have S69 := Own.pack (A := [_, _, _, _, _, _, _, _, _, _]) (L := [_, _, _]) S68
    refine (c_owners1 bb9 vm9 mm9 g9 b day t ⟨hsg t htm, hfo.2 t htm⟩ _ _ _ _ _ (fun wz hk => bd_of (besideRO S69 10 0 rfl rfl (by decide) hk) hK9) (fun wz hk => S69.beside 10 8 rfl rfl (by decide) hk) (fun wz hk => S69.beside 10 9 rfl rfl (by decide) hk) (fun l r => r = pack [blk b57 [Value.int .u16 ((mskP cz l : Nat) : Int)] 138, _, _]) ?_ _ rfl _ (S69.lend 10 rfl)).mono ?_
    ·skip
     rintro l _ o w1 rfl ⟨s, hin⟩ hK hS
     have S70 := hS.open
     refine yl_of_run (S70.obj 2 rfl) rfl (fun c cs => ?_)
     refine r_region ?_
     refine l_a rfl ?_
     refine l_nil ?_
     refine r_beginRound S70 2 rfl rfl ?_
     intro w71 S72 hk73
     refine r_block ?_
     refine r_seq ?_
     refine r_region ?_
     refine l_x rfl (x_load rfl (ld_blk (S69.beside 10 5 rfl rfl (by decide) (hK.trans (kp3 S72.keep))) Tryz.isAgg124 rfl)) ?_
     refine l_m rfl ?_
     refine l_call [] [] [_, _] rfl rfl Tryz.call99 rfl (c_claim b24 vc9 vu9 v38 cz ((found.take i).map fun t => mskP cz (ownersOf b day t)) (cntOf ((found.take i).map fun t => mskP cz (ownersOf b day t)) (2 ^ cz.length)) o hz10 _ ⟨(S69.beside 10 1 rfl rfl (by decide) (hK.trans (kp3 S72.keep))), vec_rd (S69.beside 10 2 rfl rfl (by decide) (hK.trans (kp3 S72.keep))), vec_rd (S69.beside 10 3 rfl rfl (by decide) (hK.trans (kp3 S72.keep))), vec_rd (S69.beside 10 4 rfl rfl (by decide) (hK.trans (kp3 S72.keep)))⟩) ?_
     rintro _ w74 ⟨rfl, hl76⟩
     have S75 := S72.step hl76
     refine l_a rfl ?_
     refine l_nil ?_
     refine r_seq ?_
     refine r_region ?_
     refine l_m rfl ?_
     refine l_x rfl (x_geq rfl rfl) ?_
     refine l_nil ?_
     refine r_ifd rfl (fun hc64 => ?_) (fun hc64 => ?_)
     ·skip
      obtain ⟨q, hq⟩ : ∃ q : Nat, idxO cz o = q := ⟨(idxO cz o).toNat, by have h9 : 0 ≤ idxO cz o := hc64; omega⟩
      have hqz := idxO_lt hq
      refine r_slot 19 (.int .i64 (q : Int)) (congrArg (Value.int .i64) hq) ?_
      refine r_drawR 4 Tryz.mixed (by kernel_rfl) ?_
      refine w_x rfl (fun w1 h1 => x_load rfl (ld_blk ((S75.step h1).blk 0 rfl) Tryz.isAgg138 rfl)) ?_
      refine w_x rfl (fun w1 h1 => x_mv rfl) ?_
      refine w_x rfl (fun w1 h1 => x_shl (a := 1) (n := q) rfl rfl (show q ≤ 16 by omega) (show 1 * 2 ^ q < 32768 by rw [Nat.one_mul]; exact Nat.lt_of_lt_of_le (Nat.pow_lt_pow_right (by omega) hqz) (by omega))) ?_
      refine w_x rfl (fun w1 h1 => x_or (a := mskP cz l) (c := 1 * 2 ^ q) rfl rfl (show mskP cz l < 32768 by have := msk_lt (cz := cz) (l := l); omega) (show 1 * 2 ^ q < 32768 by rw [Nat.one_mul]; exact Nat.lt_of_lt_of_le (Nat.pow_lt_pow_right (by omega) hqz) (by omega))) ?_
      refine w_nil ?_
      intro w77 hl78
      have S79 := S75.step hl78
      refine l_storeq (c' := [_]) S79 0 rfl rfl rfl rfl rfl Tryz.sizeOf138 (by first | (simp; done) | exact Nat.le_of_ble_eq_true rfl) rfl ?_
      intro w80 S81 hk82
      refine l_nil ?_
      refine r_inBlock ?_
      refine r_roundEnd S81 2 rfl ?_
      intro w83 S84
      have hms : mskP cz (l ++ [o]) = mskP cz l ||| 1 * 2 ^ q := msk_yes hq
      exact ⟨_, rfl, rfl, by rw [hms]; exact (S84.take 3).close⟩
     refine r_skip ?_
     refine r_inBlock ?_
     refine r_roundEnd S75 2 rfl ?_
     intro w85 S86
     have hms : mskP cz (l ++ [o]) = mskP cz l := msk_no hc64
     exact ⟨_, rfl, rfl, by rw [hms]; exact (S86.take 3).close⟩
    rintro _ w87 ⟨_, rfl, hback88⟩
    have S89 := Own.unpack (A := [_, _, _, _, _, _, _, _, _, _]) (L := [_, _, _]) (S69.back 10 rfl hback88)
    refine r_endRange S89 12 rfl rfl ?_
    intro w90 S91 hk92
    refine r_inBlock ?_
    refine r_seq ?_
    refine r_drawE 8 (Rsc.fp (vec EUK vu9 ((found.take i).map fun t => mskP cz (ownersOf b day t)))) Tryz.mixed (by kernel_rfl) ?_
    intro w93 hl94
    have S95 := S91.step hl94
    refine e_exact 0 _ (by kernel_rfl) rfl rfl (by kernel_rfl) rfl (ex_x rfl (fun w1 h1 => x_load rfl (ld_blk ((S95.under 3 rfl h1).blk 5 rfl) Tryz.isAgg124 rfl))) ?_
    refine e_exact 1 _ (by kernel_rfl) rfl rfl (by kernel_rfl) rfl (ex_x rfl (fun w1 h1 => x_load rfl (ld_blk ((S95.under 3 rfl h1).blk 5 rfl) Tryz.isAgg124 rfl))) ?_
    refine e_exact 2 _ (by kernel_rfl) rfl rfl (by kernel_rfl) rfl (ex_x rfl (fun w1 h1 => x_nilCheck rfl)) ?_
    refine e_exact 3 _ (by kernel_rfl) rfl rfl (by kernel_rfl) rfl (ex_x rfl (fun w1 h1 => x_fieldAddr rfl Tryz.runUnderlying130 rfl Tryz.sizeOf128 (by decide))) ?_
    refine e_exact 4 _ (by kernel_rfl) rfl rfl (by kernel_rfl) rfl (ex_x rfl (fun w1 h1 => x_load rfl (ld_blk ((S95.under 3 rfl h1).blk 1 rfl) Tryz.isAgg128 rfl))) ?_
    refine e_exact 5 _ (by kernel_rfl) rfl rfl (by kernel_rfl) rfl (ex_x rfl (fun w1 h1 => x_load rfl (ld_blk ((S95.under 3 rfl h1).blk 10 rfl) Tryz.isAgg138 rfl))) ?_
    refine e_next [6] (by kernel_rfl) (by kernel_rfl) ⟨⟨_, _, rfl, rfl, ?_⟩, trivial⟩
    refine s_buildSlice EUK [mskP cz (ownersOf b day t)] S95 rfl Tryz.runUnderlying128 Tryz.sizeOf138 Tryz.zeroValue138 rfl ⟨rfl, rfl, trivial⟩ (by decide) ?_
    intro v99 w96 S97 hl98
    refine ⟨.of_le hl98, ?_⟩
    refine e_next [7] (by kernel_rfl) (by kernel_rfl) ⟨⟨_, _, rfl, rfl, ?_⟩, trivial⟩
    refine s_append EUK S97 3 rfl rfl rfl rfl (vec_rd (S97.at 13 rfl)) Tryz.underlying128 info138 rfl rfl rfl (by unfold maxLen; rw [List.length_map, List.length_take, List.length_singleton]; omega) (by rw [List.length_map, List.length_take, List.length_singleton]; show _ * 2 ≤ _; omega) ?_
    intro v103 w100 S101 hk102 hv104
    refine ⟨hk102, ?_⟩
    refine e_done (by kernel_rfl) ?_
    refine l_x rfl (x_nilCheck rfl) ?_
    refine l_x rfl (x_fieldAddr rfl Tryz.runUnderlying130 rfl Tryz.sizeOf128 (by decide)) ?_
    refine l_storeq (c' := [_, _, _]) (v := v103) S101 1 rfl rfl rfl rfl (Rd.one (vec_rd (S101.at 3 rfl))) Tryz.sizeOf128 (by first | (simp; done) | exact Nat.le_of_ble_eq_true rfl) rfl ?_
    intro w105 S106 hk107
    refine l_nil ?_
    refine r_drawR 9 Tryz.mixed (by kernel_rfl) ?_
    refine w_x rfl (fun w1 h1 => x_load rfl (ld_blk ((S106.step h1).blk 5 rfl) Tryz.isAgg124 rfl)) ?_
    refine w_x rfl (fun w1 h1 => x_nilCheck rfl) ?_
    refine w_x rfl (fun w1 h1 => x_fieldAddr rfl Tryz.runUnderlying130 rfl Tryz.sizeOf52 (by decide)) ?_
    refine w_x rfl (fun w1 h1 => x_load rfl (ld_blk ((S106.step h1).blk 1 rfl) Tryz.isAgg52 rfl)) ?_
    refine w_x rfl (fun w1 h1 => x_load rfl (ld_blk ((S106.step h1).blk 10 rfl) Tryz.isAgg138 rfl)) ?_
    refine w_indexk EI rfl (vec_rd (S106.at 4 rfl)) rfl rfl Tryz.runUnderlying52 Tryz.sizeOf3 (by omega) hcg ?_
    intro b108 o109 hat110 row111
    refine w_x rfl (fun w1 h1 => x_load rfl (ld_cell Tryz.isAgg3 ((row111.le h1) 0 _ rfl))) ?_
    refine w_x rfl (fun w1 h1 => x_add rfl rfl (by omega)) ?_
    refine w_indexk EI rfl (vec_rd (S106.at 4 rfl)) rfl rfl Tryz.runUnderlying52 Tryz.sizeOf3 (by omega) hcg ?_
    intro b112 o113 hat114 row115
    refine w_nil ?_
    intro w116 hl117
    have S118 := S106.step hl117
    refine l_storevi (a' := _) (f := 0) S118 4 rfl rfl hat114 rfl rfl Tryz.sizeOf3 hcg (by decide) rfl ?_
    intro w119 S120 hk121
    refine l_nil ?_
    refine r_inBlock ?_
    refine r_region ?_
    refine l_x rfl (x_add rfl rfl (by omega)) ?_
    refine l_m rfl ?_
    refine l_nil ?_
    exact IH (i + 1, v103, D63 :: Ds) _ _ _ (by dsimp only; omega) ⟨rfl, rfl, rfl, rfl, rfl, rfl, rfl, trivial⟩ ⟨by omega, (by have h := (S120.pick (L' := [_, _, _, _, _, _, _, _]) [0, 1, 2, 3, 4, 5, 11, 6] (by decide) rfl).mcons (A := [_, _, _, _, _, _]); rw [Int.toNat_natCast, cnt_snoc hml, ← hmi] at h; exact h)⟩ rfl
   obtain rfl : i = found.length := by omega
   refine r_exit rfl ?_
   refine r_seq ?_
   refine r_region ?_
   refine l_x rfl (x_load rfl (ld_blk (S1.blk 5 rfl) Tryz.isAgg124 rfl)) ?_
   refine l_a rfl ?_
   refine l_a rfl ?_
   refine l_nil ?_
   refine r_retL rfl ?_
   refine leave_marks (A := [_, _, _, _, _, _]) Ds (S1.pick [0, 1, 2, 3, 4, 5, 6] (by decide) rfl) ?_
   intro w122 S123
   refine leave_done (rs := [.tmp 10, .tmp 11]) [_, _] Tryz.func89 rfl ⟨rfl, rfl, trivial⟩ ?_
   exact .inr ⟨_, vc9, _, _, cz, rfl, ((bgE_3 ho9 hc32).symm.trans hc0), hp9, hs9, by have h := ((S123.pick (L' := [_, _, _, _]) [1, 2, 3, 4] (by decide) rfl).close).new 0 rfl; rw [List.take_length] at h; exact h, S123.le⟩
  refine r_skip ?_
  refine r_seq ?_
  refine r_seq ?_
  refine r_region ?_
  refine l_m rfl ?_
  refine l_x rfl (x_neq rfl rfl) ?_
  refine l_nil ?_
  refine r_ifd rfl (fun hc36 => ?_) (fun hc36 => ?_)
  ·skip
   refine r_seq ?_
   refine r_region ?_
   refine l_m rfl ?_
   refine l_a rfl ?_
   refine l_a rfl ?_
   refine l_nil ?_
   refine r_ret (rs := [.tmp 10, .tmp 11]) [_, _] Tryz.func89 rfl ⟨rfl, rfl, trivial⟩ ?_
   exact .inl ⟨_, hc32, rfl, bgE_2 ho9 hc32, S9.le⟩
  exact absurd hc32 hc36
 exact absurd rfl hc28

end Go.Proofs

namespace Go.Proofs
open Go Go.Vk Go.Vk.Flow

open Go.Vk.Mark
open Go.Vk.Deed (i64 rng rng_iff owners sumI sumI_cons sumI_snoc)
open Go.Vk.Flow (idx)

abbrev EST := strE 9

theorem c_unless (ok : Bool) (w : World) :
  Cp Tryz.prog 136 #[.bool ok] w (fun _ w' => ok = true ∧ Le w w') (fun v w' => ok = false ∧ v = (.iface 211 (.agg #[])) ∧ Le w w') := by
 refine fn_of_runP (args := [_]) 6 Tryz.func136 rfl rfl rfl fun cs => ?_
 have S := Own.start (X := nob) w
 refine r_seq ?_
 refine r_region ?_
 refine l_m rfl ?_
 refine l_x rfl (x_not rfl) ?_
 refine l_nil ?_
 refine r_if rfl (fun hc3 => ?_) (fun hc3 => ?_)
 ·skip
  refine r_region ?_
  refine l_x rfl (x_buildS (out := []) (ss := []) Tryz.zeroValue211 rfl Tryz.runUnderlying211 trivial fill_nil) ?_
  refine l_x rfl (x_mkiface rfl Tryz.runUnderlying211 rfl) ?_
  refine l_panic rfl rfl (fun k => ?_)
  exact leaveU_panic Tryz.func136 ⟨by simpa using hc3, rfl, S.le⟩
 refine r_skip ?_
 refine p_end (rs := []) [] Tryz.func136 rfl trivial ?_
 exact ⟨by simpa using hc3, S.le⟩

theorem c_IndexStr (va : Value) (l : List (List UInt8)) (s : List UInt8) (hmx : l.length ≤ 9223372036854775807) (w : World) (hA : Rd EST w va l) :
  Cl Tryz.prog 215 #[va, .string (bs s)] w fun v w' => v = .int .i64 (idx (fun x => decide (s = x)) l) ∧ Le w w' := by
 refine fn_of_run (args := [_, _]) 19 Tryz.func215 rfl rfl rfl fun cs => ?_
 have S := Own.start (X := nob) w
 refine r_seq ?_
 refine r_region ?_
 refine l_a rfl ?_
 refine l_nil ?_
 refine r_seq ?_
 refine r_seq ?_
 refine r_region ?_
 refine l_m rfl ?_
 refine l_x rfl (x_len (hA.le S.le) rfl Tryz.runUnderlying168) ?_
 refine l_m rfl ?_
 refine l_nil ?_
 refine r_block ?_
 refine r_loop (G := Nat) (fun i => l.length - i) (fun i => [(0, va), (1, .string (bs s)), (7, Value.int .i64 l.length), (8, Value.int .i64 i)]) (fun i w' => (i ≤ l.length) ∧ (∀ x ∈ l.take i, decide (s = x) = false) ∧ Own nob w w' []) 0 ⟨rfl, rfl, rfl, rfl, trivial⟩ ⟨Nat.zero_le _, by simp, S⟩ ?_
 rintro i ρ w1 ⟨hi, hno, S1⟩ IH
 refine r_seq ?_
 refine r_region ?_
 refine l_x rfl (x_lss rfl rfl) ?_
 refine l_nil ?_
 refine r_seq ?_
 refine r_ifd rfl (fun hc9 => ?_) (fun hc9 => ?_)
 ·skip
  obtain ⟨a, ha⟩ : ∃ a, l[i]? = some a := ⟨_, List.getElem?_eq_getElem (by omega)⟩
  refine r_skip ?_
  refine r_seq ?_
  refine r_block ?_
  refine r_seq ?_
  refine r_region ?_
  refine l_m rfl ?_
  refine l_a rfl ?_
  refine l_nil ?_
  refine r_seq ?_
  refine r_region ?_
  refine l_m rfl ?_
  refine l_m rfl ?_
  refine l_m rfl ?_
  refine l_index EST rfl (hA.le S1.le) rfl rfl Tryz.runUnderlying168 Tryz.sizeOf9 (by omega) ha ?_
  intro b1 o2 hat3 row4
  refine l_x rfl (x_load rfl (ld_cell Tryz.isAgg9 (row4 0 _ rfl))) ?_
  refine l_x rfl (x_eqbs rfl rfl) ?_
  refine l_nil ?_
  refine r_ifd rfl (fun hc16 => ?_) (fun hc16 => ?_)
  ·skip
   refine r_seq ?_
   refine r_region ?_
   refine l_m rfl ?_
   refine l_a rfl ?_
   refine l_nil ?_
   refine r_ret (rs := [.tmp 4]) [_] Tryz.func215 rfl ⟨rfl, trivial⟩ ?_
   exact ⟨congrArg (Value.int .i64) (Go.Vk.Flow.idx_at (p := fun x => decide (s = x)) ha (decide_eq_true hc16) hno).symm, S1.le⟩
  have hno' : ∀ x ∈ l.take (i + 1), decide (s = x) = false := by
   intro x hx
   rw [List.take_add_one, ha] at hx
   rcases List.mem_append.1 hx with h | h
   ·exact hno x h
   simp at h; subst h; exact decide_eq_false hc16
  refine r_skip ?_
  refine r_inBlock ?_
  refine r_region ?_
  refine l_x rfl (x_add rfl rfl (by omega)) ?_
  refine l_m rfl ?_
  refine l_nil ?_
  exact IH (i + 1) _ _ (by omega) ⟨rfl, rfl, rfl, rfl, trivial⟩ ⟨by omega, hno', S1⟩
 have hi : i = l.length := by omega
 subst hi
 refine r_exit rfl ?_
 refine r_seq ?_
 refine r_region ?_
 refine l_a rfl ?_
 refine l_nil ?_
 refine r_ret (rs := [.tmp 4]) [_] Tryz.func215 rfl ⟨rfl, trivial⟩ ?_
 exact ⟨congrArg (Value.int .i64) (Go.Vk.Flow.idx_none (p := fun x => decide (s = x)) (by rwa [List.take_length] at hno)).symm, S1.le⟩

theorem c_sign (ws : List (List UInt8)) (s : List UInt8) (hw5 : ws.length = 5) (w : World) :
  Cp Tryz.prog 190 #[Value.agg ((ws).map fun x => Value.string (bs x)).toArray, .string (bs s)] w (fun v w' => ∃ g, v = .int .u8 g ∧ sgnW ws s = some g ∧ Le w w') (fun v w' => v = (.iface 211 (.agg #[])) ∧ sgnW ws s = none ∧ Le w w') := by
 have h5 := idx_lt5 (s := s) hw5
 refine fn_of_runP (args := [_, _]) 16 Tryz.func190 rfl rfl rfl fun cs => ?_
 have S := Own.start (X := nob) w
 refine r_seq ?_
 refine r_region ?_
 refine l_box S rfl rfl ?_
 intro b4 w1 S2 hl3
 refine l_a rfl ?_
 refine l_nil ?_
 refine r_seq ?_
 refine r_seq ?_
 refine r_region ?_
 refine l_m rfl ?_
 refine l_x rfl (x_eqbs (b := wornW) rfl rfl) ?_
 refine l_nil ?_
 refine r_ifd rfl (fun hc7 => ?_) (fun hc7 => ?_)
 ·skip
  refine r_seq ?_
  refine r_region ?_
  refine l_a rfl ?_
  refine l_nil ?_
  refine p_ret (rs := [.tmp 4]) [_] Tryz.func190 rfl ⟨rfl, trivial⟩ ?_
  exact ⟨9, rfl, sgn_worn hc7, S2.le⟩
 refine r_skip ?_
 refine r_seq ?_
 refine r_region ?_
 refine l_x rfl (x_slarr rfl Tryz.runUnderlying206 Tryz.sizeOf9) ?_
 have hAr := strs_rd (TS := 9) (S2.blk 0 rfl)
 rw [hw5] at hAr
 refine l_m rfl ?_
 refine l_call [] [] [_, _] rfl rfl Tryz.call215 rfl (c_IndexStr _ ws s (by omega) _ hAr) ?_
 rintro _ w5 ⟨rfl, hl7⟩
 have S6 := S2.step hl7
 refine l_a rfl ?_
 refine l_nil ?_
 refine r_seq ?_
 refine r_region ?_
 refine l_m rfl ?_
 refine l_x rfl (x_geq rfl rfl) ?_
 refine l_callP [] [] [_] rfl rfl Tryz.call136 rfl (c_unless _ _) ?_ ?_
 ·skip
  rintro _ w8 ⟨hok28, hl9⟩
  have S10 := S6.step hl9
  have hge := of_decide_eq_true hok28
  refine l_nil ?_
  refine r_seq ?_
  refine r_region ?_
  refine l_m rfl ?_
  refine l_x rfl (x_convert rfl Tryz.runUnderlying3 Tryz.runUnderlying5 (u8_in (by omega))) ?_
  refine l_a rfl ?_
  refine l_nil ?_
  refine p_ret (rs := [.tmp 4]) [_] Tryz.func190 rfl ⟨rfl, trivial⟩ ?_
  exact ⟨_, rfl, sgn_idx hc7 hge, S10.le⟩
 rintro _ w11 k ⟨hko, rfl, hl12⟩
 have S13 := S6.step hl12
 exact leaveU_panic Tryz.func190 ⟨rfl, sgn_no hc7 (by simpa using hko), S13.le⟩

theorem words_ear {p : Nat} (h : p < 2) : wordsW p = earW := if_pos h
theorem words_col {p : Nat} (h : ¬ p < 2) : wordsW p = colW := if_neg h

theorem c_words (p : Nat) (w : World) :
  Cl Tryz.prog 184 #[Value.int .i64 p] w fun v w' => v = Value.agg ((wordsW p).map fun x => Value.string (bs x)).toArray ∧ Le w w' := by
 refine fn_of_run (args := [_]) 7 Tryz.func184 rfl rfl rfl fun cs => ?_
 have S := Own.start (X := nob) w
 refine r_seq ?_
 refine r_region ?_
 refine l_alloc S rfl Tryz.zeroValue206 rfl ?_
 intro b4 w1 S2 hl3
 refine l_nil ?_
 refine r_seq ?_
 refine r_seq ?_
 refine r_region ?_
 refine l_m rfl ?_
 refine l_x rfl (x_lss rfl rfl) ?_
 refine l_nil ?_
 refine r_ifd rfl (fun hc4 => ?_) (fun hc4 => ?_)
 ·skip
  refine r_seq ?_
  refine r_region ?_
  refine l_x rfl (x_buildA (out := [_, _, _, _, _]) Tryz.zeroValue206 rfl Tryz.runUnderlying206 Tryz.sizeOf9 (fill_cons rfl rfl rfl (Nat.le_of_ble_eq_true rfl) (fill_cons rfl rfl rfl (Nat.le_of_ble_eq_true rfl) (fill_cons rfl rfl rfl (Nat.le_of_ble_eq_true rfl) (fill_cons rfl rfl rfl (Nat.le_of_ble_eq_true rfl) (fill_cons rfl rfl rfl (Nat.le_of_ble_eq_true rfl) fill_nil)))))) ?_
  refine l_stores (vs := [_, _, _, _, _]) S2 0 rfl rfl rfl rfl (ones_cons rfl (ones_cons rfl (ones_cons rfl (ones_cons rfl (ones_cons rfl ones_nil))))) Tryz.sizeOf206 (by first | exact Nat.le_refl _ | simp) (splice_all rfl) ?_
  intro w5 S6 hk7
  refine l_nil ?_
  refine r_ret (rs := [.cell 2 206]) [_] Tryz.func184 rfl ⟨⟨_, rfl, (ld_blks (S6.blk 0 rfl) Tryz.isAgg206 Tryz.sizeOf206 rfl rfl)⟩, trivial⟩ ?_
  exact ⟨by rw [words_ear (by omega)]; rfl, S6.le⟩
 refine r_skip ?_
 refine r_seq ?_
 refine r_region ?_
 refine l_x rfl (x_buildA (out := [_, _, _, _, _]) Tryz.zeroValue206 rfl Tryz.runUnderlying206 Tryz.sizeOf9 (fill_cons rfl rfl rfl (Nat.le_of_ble_eq_true rfl) (fill_cons rfl rfl rfl (Nat.le_of_ble_eq_true rfl) (fill_cons rfl rfl rfl (Nat.le_of_ble_eq_true rfl) (fill_cons rfl rfl rfl (Nat.le_of_ble_eq_true rfl) (fill_cons rfl rfl rfl (Nat.le_of_ble_eq_true rfl) fill_nil)))))) ?_
 refine l_stores (vs := [_, _, _, _, _]) S2 0 rfl rfl rfl rfl (ones_cons rfl (ones_cons rfl (ones_cons rfl (ones_cons rfl (ones_cons rfl ones_nil))))) Tryz.sizeOf206 (by first | exact Nat.le_refl _ | simp) (splice_all rfl) ?_
 intro w8 S9 hk10
 refine l_nil ?_
 refine r_ret (rs := [.cell 2 206]) [_] Tryz.func184 rfl ⟨⟨_, rfl, (ld_blks (S9.blk 0 rfl) Tryz.isAgg206 Tryz.sizeOf206 rfl rfl)⟩, trivial⟩ ?_
 exact ⟨by rw [words_col (by omega)]; rfl, S9.le⟩

set_option maxHeartbeats 1000000 in
theorem c_seen (va : Value) (l : List (List UInt8)) (hml : l.length ≤ 1000000) (w : World) (hA : Rd EST w va l) :
  Cp Tryz.prog 138 #[va] w (fun v w' => ∃ s, v = Value.agg (encSg s).toArray ∧ seenW l = some s ∧ Le w w') (fun v w' => v = (.iface 211 (.agg #[])) ∧ seenW l = none ∧ Le w w') := by
 refine fn_of_runP (args := [_]) 28 Tryz.func138 rfl rfl rfl fun cs => ?_
 have S := Own.start (X := nob) w
 refine r_seq ?_
 refine r_region ?_
 refine l_alloc S rfl Tryz.zeroValue28 rfl ?_
 intro b4 w1 S2 hl3
 refine l_nil ?_
 refine r_seq ?_
 refine r_region ?_
 refine l_m rfl ?_
 refine l_x rfl (x_len (hA.le S2.le) rfl Tryz.runUnderlying168) ?_
 refine l_x rfl (x_eql rfl rfl) ?_
 refine l_callP [] [] [_] rfl rfl Tryz.call136 rfl (c_unless _ _) ?_ ?_
 ·skip
  rintro _ w5 ⟨hok73, hl6⟩
  have S7 := S2.step hl6
  have hl6 : l.length = 6 := by have := of_decide_eq_true hok73; omega
  refine l_nil ?_
  refine r_seq ?_
  refine r_region ?_
  refine l_alloc S7 rfl Tryz.zeroValue28 rfl ?_
  intro b11 w8 S9 hl10
  refine l_nil ?_
  refine r_seq ?_
  refine r_seq ?_
  refine r_region ?_
  refine l_m rfl ?_
  refine l_x rfl (x_len (hA.le S9.le) rfl Tryz.runUnderlying168) ?_
  refine l_m rfl ?_
  refine l_nil ?_
  refine r_block ?_
  refine r_loop (G := Nat) (fun i => 6 - i) (fun i => [(2, .pointer (some ⟨b4, 0, none⟩)), (3, .pointer (some ⟨b11, 0, none⟩)), (11, va), (12, Value.int .i64 6), (13, Value.int .i64 i)]) (fun i w' => (i ≤ 6) ∧ (∀ q, q < i → (sgAt l q).isSome = true) ∧ Own nob w w' [blk b4 (encSg zeroSg) 28, blk b11 (encSg (seenP l i)) 28]) 0 ⟨rfl, rfl, rfl, (congrArg (Value.int .i64) (by omega)), rfl, trivial⟩ ⟨Nat.zero_le _, fun q h => absurd h (Nat.not_lt_zero q), S9⟩ ?_
  rintro i ρ w1 ⟨hi, hc, S1⟩ IH
  refine r_seq ?_
  refine r_region ?_
  refine l_x rfl (x_lss rfl rfl) ?_
  refine l_nil ?_
  refine r_seq ?_
  refine r_ifd rfl (fun hc14 => ?_) (fun hc14 => ?_)
  ·skip
   obtain ⟨s, hs⟩ : ∃ s, l[i]? = some s := ⟨_, List.getElem?_eq_getElem (by omega)⟩
   refine r_skip ?_
   refine r_seq ?_
   refine r_block ?_
   refine r_seq ?_
   refine r_region ?_
   refine l_m rfl ?_
   refine l_index EST rfl (hA.le S1.le) rfl rfl Tryz.runUnderlying168 Tryz.sizeOf9 (by omega) hs ?_
   intro b12 o13 hat14 row15
   refine l_x rfl (x_load rfl (ld_cell Tryz.isAgg9 (row15 0 _ rfl))) ?_
   refine l_a rfl ?_
   refine l_a rfl ?_
   refine l_nil ?_
   refine r_seq ?_
   refine r_region ?_
   refine l_m rfl ?_
   refine l_call [] [] [_] rfl rfl Tryz.call184 rfl (c_words i _) ?_
   rintro _ w16 ⟨rfl, hl18⟩
   have S17 := S1.step hl18
   refine l_x rfl (x_func rfl rfl) ?_
   refine l_a rfl ?_
   refine l_nil ?_
   refine r_region ?_
   refine l_m rfl ?_
   refine l_m rfl ?_
   refine l_m rfl ?_
   refine l_callP [_] [] [_, _] rfl rfl Tryz.call190 rfl (c_sign (wordsW i) s (words_len i) _) ?_ ?_
   ·skip
    rintro _ w19 ⟨g, rfl, hg, hl20⟩
    have S21 := S17.step hl20
    refine l_x rfl (x_indexAddr_array rfl rfl Tryz.runUnderlying28 Tryz.sizeOf5 (by omega)) ?_
    refine l_storeq S21 1 rfl rfl rfl rfl rfl Tryz.sizeOf5 (sgb_lt (by omega)) (sgb_set (by omega)) ?_
    intro w22 S23 hk24
    refine l_nil ?_
    refine r_inBlock ?_
    refine r_region ?_
    refine l_x rfl (x_add rfl rfl (by omega)) ?_
    refine l_m rfl ?_
    refine l_nil ?_
    exact IH (i + 1) _ _ (by omega) ⟨rfl, rfl, rfl, rfl, rfl, trivial⟩ ⟨by omega, yes_step (P := fun q => (sgAt l q).isSome) hc (by rw [at_some hs hg]; rfl), (by have h := S23.take 2; rw [← seen_step (by omega), at_some hs hg]; exact h)⟩
   rintro _ w25 k ⟨rfl, hg, hl26⟩
   have S27 := S17.step hl26
   exact leaveU_panic Tryz.func138 ⟨rfl, seen_no2 (i := i) (by omega) (at_none hs hg), S27.le⟩
  obtain rfl : i = 6 := by omega
  refine r_exit rfl ?_
  refine r_seq ?_
  refine r_region ?_
  refine l_x rfl (x_load rfl (ld_blks (S1.blk 1 rfl) Tryz.isAgg28 Tryz.sizeOf28 rfl rfl)) ?_
  refine l_stores (vs := [_, _, _, _, _, _]) S1 0 rfl rfl rfl rfl (ones_cons rfl (ones_cons rfl (ones_cons rfl (ones_cons rfl (ones_cons rfl (ones_cons rfl ones_nil)))))) Tryz.sizeOf28 (by first | exact Nat.le_refl _ | simp) (splice_all rfl) ?_
  intro w28 S29 hk30
  refine l_nil ?_
  refine p_ret (rs := [.cell 2 28]) [_] Tryz.func138 rfl ⟨⟨_, rfl, (ld_blks (S29.blk 0 rfl) Tryz.isAgg28 Tryz.sizeOf28 rfl rfl)⟩, trivial⟩ ?_
  exact ⟨_, rfl, seen_yes hl6 hc, S29.le⟩
 rintro _ w31 k ⟨hko, rfl, hl32⟩
 have S33 := S2.step hl32
 exact leaveU_panic Tryz.func138 ⟨rfl, seen_no1 (by have := of_decide_eq_false hko; omega), S33.le⟩

end Go.Proofs
