/- Texts joined for claims: Facts, F1, F2, F3. -/
import Derived.Test.YtlegfcmlfhlokaaGreatProg
import Derived.Test.YtlegfcmlfhlokaaGreatK14dc260b23
import Derived.Test.YtlegfcmlfhlokaaGreatK8521e6cdc8
set_option linter.unusedVariables false
set_option linter.unusedSimpArgs false
set_option linter.unusedSectionVars false
/-
  Facts of the program and of its types.
-/
namespace Go.Proofs
open Go Go.Vk Go.Vk.Flow

open Go.Vk.Deed
theorem Tryz.mixed : Tryz.prog.follows .mixedOrders = true := by kernel_rfl
abbrev EI := intE 3
abbrev EB := boolE 4
abbrev ED := deedE 45
abbrev ELS := lsE 135
abbrev ELZ := lzE 133
abbrev EPL := plE 154
abbrev EAC := acE 62
abbrev TY : Tys := ⟨81, 135, 3⟩
theorem info3 : Tryz.prog.info? 3 = some Tryz.t3 := by kernel_rfl
theorem info45 : Tryz.prog.info? 45 = some Tryz.t45 := by kernel_rfl
theorem info135 : Tryz.prog.info? 135 = some Tryz.t135 := by kernel_rfl
theorem cellsI : Tryz.prog.cellsOf 3 = 1 := by kernel_rfl
theorem keyI : KeyOk Tryz.prog 3 (.int .i64) kInt := keyInt (by kernel_rfl)
theorem decF {p : Prop} [Decidable p] (h : ¬ p) : false = decide p := (decide_eq_false h).symm
theorem decE {p q : Prop} [Decidable p] [Decidable q] (h : p ↔ q) : decide p = decide q := decide_eq_decide.2 h

end Go.Proofs

/-
  Contracts of functions of the program: each by symbolic execution of its text.
-/
namespace Go.Proofs
open Go Go.Vk Go.Vk.Flow

open Go.Vk.Deed

/-- couchant/deed.in. -/
theorem c_in (a l h : Int) (w : World) :
    Cl Tryz.prog 76 #[.int .i64 a, .int .i64 l, .int .i64 h] w fun v w' => v = .bool (rng a l h) ∧ Le w w' := by
  refine fn_of_run (args := [_, _, _]) 15 Tryz.func76 rfl rfl rfl fun cs => ?_
  have S := Own.start (X := nob) w
  refine r_seq ?_
  refine r_region ?_
  refine l_x rfl (x_as rfl) ?_
  refine l_nil ?_
  refine r_seq ?_
  refine r_region ?_
  refine l_x rfl (x_mv rfl) ?_
  refine l_x rfl (x_mv rfl) ?_
  refine l_x rfl (x_geq rfl rfl) ?_
  refine l_x rfl (x_mv rfl) ?_
  refine l_splitd (d := 10) rfl (fun hg10 => ?_) (fun hg10 => ?_)
  · skip
    refine l_x rfl (x_mv rfl) ?_
    refine l_x rfl (x_mv rfl) ?_
    refine l_x rfl (x_leq rfl rfl) ?_
    refine l_x rfl (x_pick_t rfl rfl) ?_
    refine l_x rfl (x_as rfl) ?_
    refine l_nil ?_
    refine r_ret (rs := [.tmp 6]) [_] Tryz.func76 rfl ⟨rfl, trivial⟩ ?_
    exact ⟨congrArg Value.bool (by unfold rng; first | (apply decE; omega) | (apply decF; omega)), S.le⟩
  refine l_pass rfl ?_
  refine l_pass rfl ?_
  refine l_pass rfl ?_
  refine l_x rfl (x_pick_f rfl rfl) ?_
  refine l_x rfl (x_as rfl) ?_
  refine l_nil ?_
  refine r_ret (rs := [.tmp 6]) [_] Tryz.func76 rfl ⟨rfl, trivial⟩ ?_
  exact ⟨congrArg Value.bool (by unfold rng; first | (apply decE; omega) | (apply decF; omega)), S.le⟩

/-- slices.IndexFunc[[]int,int]. -/
theorem c_IndexFuncInt (va : Value) (l : List Int) (p : Int → Bool) (kf : Nat) (caps : List Value) (hmx : l.length ≤ 9223372036854775807) (w : World) (hA : Rd EI w va l) (he : ∀ args w, (callFunc kf args).run Tryz.prog w = .ok (.enter kf args) w)
    (hf : ∀ x ∈ l, ∀ w1, Le w w1 → Cl Tryz.prog kf ([Value.int .i64 x] ++ caps).toArray w1 fun v w2 => v = .bool (p x) ∧ Le w1 w2) :
    Cl Tryz.prog 103 #[va, .func (.func kf) #[] caps.toArray] w fun v w' => v = .int .i64 (idx p l) ∧ Le w w' := by
  refine fn_of_run (args := [_, _]) 19 Tryz.func103 rfl rfl rfl fun cs => ?_
  have S := Own.start (X := nob) w
  refine r_seq ?_
  refine r_region ?_
  refine l_x rfl (x_as rfl) ?_
  refine l_nil ?_
  refine r_seq ?_
  refine r_seq ?_
  refine r_region ?_
  refine l_x rfl (x_mv rfl) ?_
  refine l_x rfl (x_len (hA.le S.le) rfl Tryz.runUnderlying23) ?_
  refine l_x rfl (x_mv rfl) ?_
  refine l_nil ?_
  refine r_block ?_
  refine r_loop (G := Nat) (fun i => l.length - i) (fun i => [(0, va), (1, .func (.func kf) #[] caps.toArray), (8, .int .i64 i), (7, .int .i64 l.length)]) (fun i w' => (i ≤ l.length) ∧ (∀ x ∈ l.take i, p x = false) ∧ Own nob w w' []) 0 ⟨rfl, rfl, rfl, rfl, trivial⟩ ⟨Nat.zero_le _, by simp, S⟩ ?_
  rintro i ρ w1 ⟨hi, hno, S1⟩ IH
  refine r_seq ?_
  refine r_region ?_
  refine l_x rfl (x_lss rfl rfl) ?_
  refine l_nil ?_
  refine r_seq ?_
  refine r_ifd rfl (fun hc9 => ?_) (fun hc9 => ?_)
  · skip
    obtain ⟨a, ha⟩ : ∃ a, l[i]? = some a := ⟨_, List.getElem?_eq_getElem (by omega)⟩
    refine r_skip ?_
    refine r_seq ?_
    refine r_block ?_
    refine r_seq ?_
    refine r_region ?_
    refine l_x rfl (x_mv rfl) ?_
    refine l_x rfl (x_as rfl) ?_
    refine l_nil ?_
    refine r_seq ?_
    refine r_region ?_
    refine l_x rfl (x_mv rfl) ?_
    refine l_x rfl (x_mv rfl) ?_
    refine l_x rfl (x_mv rfl) ?_
    refine l_index EI rfl (hA.le S1.le) rfl rfl Tryz.runUnderlying23 Tryz.sizeOf3 (by omega) (by first | assumption | exact List.getElem?_eq_getElem (by omega)) ?_
    intro b1 o2 hat3 row4
    refine l_x rfl (x_load rfl (ld_cell Tryz.isAgg3 (row4 0 _ rfl))) ?_
    refine l_call [] caps ([_] ++ caps) rfl rfl he rfl (hf _ (List.mem_of_getElem? ha) _ S1.le) ?_
    rintro _ w5 ⟨rfl, hl7⟩
    have S6 := S1.step hl7
    refine l_nil ?_
    refine r_if rfl (fun hc16 => ?_) (fun hc16 => ?_)
    · skip
      refine r_seq ?_
      refine r_region ?_
      refine l_x rfl (x_mv rfl) ?_
      refine l_x rfl (x_as rfl) ?_
      refine l_nil ?_
      refine r_ret (rs := [.tmp 4]) [_] Tryz.func103 rfl ⟨rfl, trivial⟩ ?_
      exact ⟨congrArg (Value.int .i64) (idx_at ha hc16 hno).symm, S6.le⟩
    have hno' : ∀ x ∈ l.take (i + 1), p x = false := by
      intro x hx
      rw [List.take_add_one, ha] at hx
      rcases List.mem_append.1 hx with h | h
      · exact hno x h
      simp at h; subst h; exact hc16
    refine r_skip ?_
    refine r_inBlock ?_
    refine r_region ?_
    refine l_x rfl (x_add rfl rfl (by omega)) ?_
    refine l_x rfl (x_mv rfl) ?_
    refine l_nil ?_
    exact IH (i + 1) _ _ (by omega) ⟨rfl, rfl, rfl, rfl, trivial⟩ ⟨by omega, hno', S6⟩
  have hi : i = l.length := by omega
  subst hi
  refine r_exit rfl ?_
  refine r_seq ?_
  refine r_region ?_
  refine l_x rfl (x_as rfl) ?_
  refine l_nil ?_
  refine r_ret (rs := [.tmp 4]) [_] Tryz.func103 rfl ⟨rfl, trivial⟩ ?_
  exact ⟨congrArg (Value.int .i64) (idx_none (by rwa [List.take_length] at hno)).symm, S1.le⟩

/-- slices.ContainsFunc[[]int,int]. -/
theorem c_ContainsFuncInt (va : Value) (l : List Int) (p : Int → Bool) (kf : Nat) (caps : List Value) (hmx : l.length ≤ 9223372036854775807) (w : World) (hA : Rd EI w va l) (he : ∀ args w, (callFunc kf args).run Tryz.prog w = .ok (.enter kf args) w)
    (hf : ∀ x ∈ l, ∀ w1, Le w w1 → Cl Tryz.prog kf ([Value.int .i64 x] ++ caps).toArray w1 fun v w2 => v = .bool (p x) ∧ Le w1 w2) :
    Cl Tryz.prog 74 #[va, .func (.func kf) #[] caps.toArray] w fun v w' => v = .bool (l.any p) ∧ Le w w' := by
  refine fn_of_run (args := [_, _]) 9 Tryz.func74 rfl rfl rfl fun cs => ?_
  have S := Own.start (X := nob) w
  refine r_seq ?_
  refine r_region ?_
  refine l_x rfl (x_as rfl) ?_
  refine l_nil ?_
  refine r_seq ?_
  refine r_region ?_
  refine l_x rfl (x_mv rfl) ?_
  refine l_x rfl (x_mv rfl) ?_
  refine l_call [] [] [_, _] rfl rfl Tryz.call103 rfl (c_IndexFuncInt _ _ p kf caps hmx _ (hA.le S.le) he (fun x hx w1 h1 => hf x hx w1 (S.le.trans h1))) ?_
  rintro _ w1 ⟨rfl, hl3⟩
  have S2 := S.step hl3
  refine l_x rfl (x_geq rfl rfl) ?_
  refine l_x rfl (x_as rfl) ?_
  refine l_nil ?_
  refine r_ret (rs := [.tmp 4]) [_] Tryz.func74 rfl ⟨rfl, trivial⟩ ?_
  exact ⟨congrArg Value.bool (Bool.eq_iff_iff.2 (by rw [decide_eq_true_iff]; exact idx_ge p _)), S2.le⟩

/-- slices.IndexFunc[[]couchant/api.Deed,couchant/api.Deed]. -/
theorem c_IndexFuncDeed (va : Value) (rs : List Rw) (p : Rw → Bool) (kf : Nat) (caps : List Value) (hmx : rs.length ≤ 9223372036854775807) (w : World) (hA : DsR 45 3 w va rs) (he : ∀ args w, (callFunc kf args).run Tryz.prog w = .ok (.enter kf args) w)
    (hf : ∀ x ∈ rs, ∀ w1, Le w w1 → Cl Tryz.prog kf ([Value.agg (encD x).toArray] ++ caps).toArray w1 fun v w2 => v = .bool (p x) ∧ Le w1 w2) :
    Cl Tryz.prog 99 #[va, .func (.func kf) #[] caps.toArray] w fun v w' => v = .int .i64 (idx p rs) ∧ Le w w' := by
  refine fn_of_run (args := [_, _]) 19 Tryz.func99 rfl rfl rfl fun cs => ?_
  have S := Own.start (X := nob) w
  refine r_seq ?_
  refine r_region ?_
  refine l_x rfl (x_as rfl) ?_
  refine l_nil ?_
  refine r_seq ?_
  refine r_seq ?_
  refine r_region ?_
  refine l_x rfl (x_mv rfl) ?_
  refine l_x rfl (x_len (hA.rd.le S.le) rfl Tryz.runUnderlying22) ?_
  refine l_x rfl (x_mv rfl) ?_
  refine l_nil ?_
  refine r_block ?_
  refine r_loop (G := Nat) (fun i => rs.length - i) (fun i => [(0, va), (1, .func (.func kf) #[] caps.toArray), (8, .int .i64 i), (7, .int .i64 rs.length)]) (fun i w' => (i ≤ rs.length) ∧ (∀ x ∈ rs.take i, p x = false) ∧ Own nob w w' []) 0 ⟨rfl, rfl, rfl, rfl, trivial⟩ ⟨Nat.zero_le _, by simp, S⟩ ?_
  rintro i ρ w1 ⟨hi, hno, S1⟩ IH
  refine r_seq ?_
  refine r_region ?_
  refine l_x rfl (x_lss rfl rfl) ?_
  refine l_nil ?_
  refine r_seq ?_
  refine r_ifd rfl (fun hc9 => ?_) (fun hc9 => ?_)
  · skip
    obtain ⟨a, ha⟩ : ∃ a, rs[i]? = some a := ⟨_, List.getElem?_eq_getElem (by omega)⟩
    refine r_skip ?_
    refine r_seq ?_
    refine r_block ?_
    refine r_seq ?_
    refine r_region ?_
    refine l_x rfl (x_mv rfl) ?_
    refine l_x rfl (x_as rfl) ?_
    refine l_nil ?_
    refine r_seq ?_
    refine r_region ?_
    refine l_x rfl (x_mv rfl) ?_
    refine l_x rfl (x_mv rfl) ?_
    refine l_x rfl (x_mv rfl) ?_
    refine l_index ED rfl (hA.rd.le S1.le) rfl rfl Tryz.runUnderlying22 Tryz.sizeOf45 (by omega) (by first | assumption | exact List.getElem?_eq_getElem (by omega)) ?_
    intro b1 o2 hat3 row4
    refine l_x rfl (x_load rfl (ld_row Tryz.isAgg45 Tryz.sizeOf45 rfl row4)) ?_
    refine l_call [] caps ([_] ++ caps) rfl rfl he rfl (hf _ (List.mem_of_getElem? ha) _ S1.le) ?_
    rintro _ w5 ⟨rfl, hl7⟩
    have S6 := S1.step hl7
    refine l_nil ?_
    refine r_if rfl (fun hc16 => ?_) (fun hc16 => ?_)
    · skip
      refine r_seq ?_
      refine r_region ?_
      refine l_x rfl (x_mv rfl) ?_
      refine l_x rfl (x_as rfl) ?_
      refine l_nil ?_
      refine r_ret (rs := [.tmp 4]) [_] Tryz.func99 rfl ⟨rfl, trivial⟩ ?_
      exact ⟨congrArg (Value.int .i64) (idx_at ha hc16 hno).symm, S6.le⟩
    have hno' : ∀ x ∈ rs.take (i + 1), p x = false := by
      intro x hx
      rw [List.take_add_one, ha] at hx
      rcases List.mem_append.1 hx with h | h
      · exact hno x h
      simp at h; subst h; exact hc16
    refine r_skip ?_
    refine r_inBlock ?_
    refine r_region ?_
    refine l_x rfl (x_add rfl rfl (by omega)) ?_
    refine l_x rfl (x_mv rfl) ?_
    refine l_nil ?_
    exact IH (i + 1) _ _ (by omega) ⟨rfl, rfl, rfl, rfl, trivial⟩ ⟨by omega, hno', S6⟩
  have hi : i = rs.length := by omega
  subst hi
  refine r_exit rfl ?_
  refine r_seq ?_
  refine r_region ?_
  refine l_x rfl (x_as rfl) ?_
  refine l_nil ?_
  refine r_ret (rs := [.tmp 4]) [_] Tryz.func99 rfl ⟨rfl, trivial⟩ ?_
  exact ⟨congrArg (Value.int .i64) (idx_none (by rwa [List.take_length] at hno)).symm, S1.le⟩

/-- slices.ContainsFunc[[]couchant/api.Deed,couchant/api.Deed]. -/
theorem c_ContainsFuncDeed (va : Value) (rs : List Rw) (p : Rw → Bool) (kf : Nat) (caps : List Value) (hmx : rs.length ≤ 9223372036854775807) (w : World) (hA : DsR 45 3 w va rs) (he : ∀ args w, (callFunc kf args).run Tryz.prog w = .ok (.enter kf args) w)
    (hf : ∀ x ∈ rs, ∀ w1, Le w w1 → Cl Tryz.prog kf ([Value.agg (encD x).toArray] ++ caps).toArray w1 fun v w2 => v = .bool (p x) ∧ Le w1 w2) :
    Cl Tryz.prog 67 #[va, .func (.func kf) #[] caps.toArray] w fun v w' => v = .bool (rs.any p) ∧ Le w w' := by
  refine fn_of_run (args := [_, _]) 9 Tryz.func67 rfl rfl rfl fun cs => ?_
  have S := Own.start (X := nob) w
  refine r_seq ?_
  refine r_region ?_
  refine l_x rfl (x_as rfl) ?_
  refine l_nil ?_
  refine r_seq ?_
  refine r_region ?_
  refine l_x rfl (x_mv rfl) ?_
  refine l_x rfl (x_mv rfl) ?_
  refine l_call [] [] [_, _] rfl rfl Tryz.call99 rfl (c_IndexFuncDeed _ _ p kf caps hmx _ (hA.le S.le) he (fun x hx w1 h1 => hf x hx w1 (S.le.trans h1))) ?_
  rintro _ w1 ⟨rfl, hl3⟩
  have S2 := S.step hl3
  refine l_x rfl (x_geq rfl rfl) ?_
  refine l_x rfl (x_as rfl) ?_
  refine l_nil ?_
  refine r_ret (rs := [.tmp 4]) [_] Tryz.func67 rfl ⟨rfl, trivial⟩ ?_
  exact ⟨congrArg Value.bool (Bool.eq_iff_iff.2 (by rw [decide_eq_true_iff]; exact idx_ge p _)), S2.le⟩

/-- couchant/deed.owned$1. -/
theorem c_owned1 (x : Int) (w : World) :
    Cl Tryz.prog 75 #[.int .i64 x] w fun v w' => v = .bool (!own x) ∧ Le w w' := by
  refine fn_of_run (args := [_]) 6 Tryz.func75 rfl rfl rfl fun cs => ?_
  have S := Own.start (X := nob) w
  refine r_seq ?_
  refine r_region ?_
  refine l_x rfl (x_as rfl) ?_
  refine l_nil ?_
  refine r_seq ?_
  refine r_region ?_
  refine l_x rfl (x_mv rfl) ?_
  refine l_call [] [] [_, _, _] rfl rfl Tryz.call76 rfl (c_in _ _ _ _) ?_
  rintro _ w1 ⟨rfl, hl3⟩
  have S2 := S.step hl3
  refine l_x rfl (x_not rfl) ?_
  refine l_x rfl (x_as rfl) ?_
  refine l_nil ?_
  refine r_ret (rs := [.tmp 2]) [_] Tryz.func75 rfl ⟨rfl, trivial⟩ ?_
  exact ⟨rfl, S2.le⟩

theorem all_not_any {α : Type} (l : List α) (p : α → Bool) : (!l.any fun x => !p x) = l.all p := by induction l with
  | nil => rfl
  | cons x l ih => rw [List.any_cons, List.all_cons, Bool.not_or, Bool.not_not, ih]

/-- couchant/deed.owned. -/
theorem c_owned (va : Value) (l : List Int) (hm : l.length ≤ 9223372036854775807) (w : World) (hL : Rd EI w va l) :
    Cl Tryz.prog 42 #[va] w fun v w' => v = .bool (l.all own) ∧ Le w w' := by
  refine fn_of_run (args := [_]) 6 Tryz.func42 rfl rfl rfl fun cs => ?_
  have S := Own.start (X := nob) w
  refine r_seq ?_
  refine r_region ?_
  refine l_x rfl (x_as rfl) ?_
  refine l_nil ?_
  refine r_seq ?_
  refine r_region ?_
  refine l_x rfl (x_mv rfl) ?_
  refine l_call [] [] [_, _] rfl rfl Tryz.call74 rfl (c_ContainsFuncInt _ l (fun x => !own x) 75 [] hm _ (hL.le S.le) Tryz.call75 (fun x _ w1 _ => c_owned1 x w1)) ?_
  rintro _ w1 ⟨rfl, hl3⟩
  have S2 := S.step hl3
  refine l_x rfl (x_not rfl) ?_
  refine l_x rfl (x_as rfl) ?_
  refine l_nil ?_
  refine r_ret (rs := [.tmp 2]) [_] Tryz.func42 rfl ⟨rfl, trivial⟩ ?_
  exact ⟨congrArg Value.bool (all_not_any l own), S2.le⟩

/-- couchant/deed.bare. -/
theorem c_bare (a : Rw) (w : World) (hA : SubR 3 w a) :
    Cl Tryz.prog 96 #[.agg (encD a).toArray] w fun v w' => v = .agg (encD (bareD a.1, a.2)).toArray ∧ Le w w' := by
  refine fn_of_run (args := [_]) 8 Tryz.func96 rfl rfl rfl fun cs => ?_
  have S := Own.start (X := nob) w
  refine r_seq ?_
  refine r_region ?_
  refine l_box S rfl rfl ?_
  intro b4 w1 S2 hl3
  refine l_alloc S2 rfl Tryz.zeroValue45 rfl ?_
  intro b8 w5 S6 hl7
  refine l_nil ?_
  refine r_seq ?_
  refine r_region ?_
  refine l_x rfl (x_fieldAddr rfl Tryz.runUnderlying45 rfl Tryz.sizeOf3 (by decide)) ?_
  refine l_storeq (c' := [_, _, _, _, _, _, _, _, _, _, _]) S6 0 rfl rfl rfl rfl rfl Tryz.sizeOf3 (by first | (simp; done) | exact Nat.le_of_ble_eq_true rfl) rfl ?_
  intro w9 S10 hk11
  refine l_x rfl (x_fieldAddr rfl Tryz.runUnderlying45 rfl Tryz.sizeOf3 (by decide)) ?_
  refine l_storeq (c' := [_, _, _, _, _, _, _, _, _, _, _]) S10 0 rfl rfl rfl rfl rfl Tryz.sizeOf3 (by first | (simp; done) | exact Nat.le_of_ble_eq_true rfl) rfl ?_
  intro w12 S13 hk14
  refine l_x rfl (x_fieldAddr rfl Tryz.runUnderlying45 rfl Tryz.sizeOf3 (by decide)) ?_
  refine l_storeq (c' := [_, _, _, _, _, _, _, _, _, _, _]) S13 0 rfl rfl rfl rfl rfl Tryz.sizeOf3 (by first | (simp; done) | exact Nat.le_of_ble_eq_true rfl) rfl ?_
  intro w15 S16 hk17
  refine l_x rfl (x_fieldAddr rfl Tryz.runUnderlying45 rfl Tryz.sizeOf5 (by decide)) ?_
  refine l_storeq (c' := [_, _, _, _, _, _, _, _, _, _, _]) S16 0 rfl rfl rfl rfl rfl Tryz.sizeOf5 (by first | (simp; done) | exact Nat.le_of_ble_eq_true rfl) rfl ?_
  intro w18 S19 hk20
  refine l_nil ?_
  refine r_seq ?_
  refine r_region ?_
  refine l_x rfl (x_load rfl (ld_blks (S19.blk 0 rfl) Tryz.isAgg45 Tryz.sizeOf45 rfl rfl)) ?_
  refine l_stores (vs := [_, _, _, _, _, _, _, _, _, _, _]) S19 1 rfl rfl rfl rfl (ones_cons rfl (ones_cons rfl (ones_cons rfl (ones_cons rfl (ones_cons rfl (ones_cons rfl (ones_cons rfl (ones_cons rfl (ones_cons rfl (ones_cons (Rd.one (hA.1.le S19.le)) (ones_cons (Rd.one (hA.2.le S19.le)) ones_nil))))))))))) Tryz.sizeOf45 (by first | exact Nat.le_refl _ | simp) (splice_all rfl) ?_
  intro w21 S22 hk23
  refine l_nil ?_
  refine r_ret (rs := [.cell 2 45]) [_] Tryz.func96 rfl ⟨⟨_, rfl, (ld_blks (S22.blk 1 rfl) Tryz.isAgg45 Tryz.sizeOf45 rfl rfl)⟩, trivial⟩ ?_
  exact ⟨rfl, S22.le⟩

set_option maxHeartbeats 2000000 in
/-- couchant/deed.zero. -/
theorem c_zero (a : Rw) (w : World) (hA : SubR 3 w a) :
    Cl Tryz.prog 98 #[.agg (encD a).toArray] w fun v w' => v = .bool (zeroB a.1) ∧ Le w w' := by
  refine fn_of_run (args := [_]) 43 Tryz.func98 rfl rfl rfl fun cs => ?_
  have S := Own.start (X := nob) w
  refine r_seq ?_
  refine r_region ?_
  refine l_box S rfl rfl ?_
  intro b4 w1 S2 hl3
  refine l_x rfl (x_as rfl) ?_
  refine l_nil ?_
  refine r_seq ?_
  refine r_region ?_
  refine l_x rfl (x_fieldAddr rfl Tryz.runUnderlying45 rfl Tryz.sizeOf3 (by decide)) ?_
  refine l_x rfl (x_load rfl (ld_blk (S2.blk 0 rfl) Tryz.isAgg3 rfl)) ?_
  refine l_x rfl (x_eql rfl rfl) ?_
  refine l_x rfl (x_mv rfl) ?_
  refine l_splitd (d := 6) rfl (fun hg6 => ?_) (fun hg6 => ?_)
  · skip
    refine l_x rfl (x_fieldAddr rfl Tryz.runUnderlying45 rfl Tryz.sizeOf3 (by decide)) ?_
    refine l_x rfl (x_load rfl (ld_blk (S2.blk 0 rfl) Tryz.isAgg3 rfl)) ?_
    refine l_x rfl (x_eql rfl rfl) ?_
    refine l_x rfl (x_pick_t rfl rfl) ?_
    refine l_x rfl (x_mv rfl) ?_
    refine l_splitd (d := 11) rfl (fun hg11 => ?_) (fun hg11 => ?_)
    · skip
      refine l_x rfl (x_fieldAddr rfl Tryz.runUnderlying45 rfl Tryz.sizeOf3 (by decide)) ?_
      refine l_x rfl (x_load rfl (ld_blk (S2.blk 0 rfl) Tryz.isAgg3 rfl)) ?_
      refine l_x rfl (x_eql rfl rfl) ?_
      refine l_x rfl (x_pick_t rfl rfl) ?_
      refine l_x rfl (x_mv rfl) ?_
      refine l_splitd (d := 16) rfl (fun hg16 => ?_) (fun hg16 => ?_)
      · skip
        refine l_x rfl (x_fieldAddr rfl Tryz.runUnderlying45 rfl Tryz.sizeOf3 (by decide)) ?_
        refine l_x rfl (x_load rfl (ld_blk (S2.blk 0 rfl) Tryz.isAgg3 rfl)) ?_
        refine l_x rfl (x_eql rfl rfl) ?_
        refine l_x rfl (x_pick_t rfl rfl) ?_
        refine l_x rfl (x_mv rfl) ?_
        refine l_splitd (d := 21) rfl (fun hg21 => ?_) (fun hg21 => ?_)
        · skip
          refine l_x rfl (x_fieldAddr rfl Tryz.runUnderlying45 rfl Tryz.sizeOf3 (by decide)) ?_
          refine l_x rfl (x_load rfl (ld_blk (S2.blk 0 rfl) Tryz.isAgg3 rfl)) ?_
          refine l_x rfl (x_eql rfl rfl) ?_
          refine l_x rfl (x_pick_t rfl rfl) ?_
          refine l_x rfl (x_mv rfl) ?_
          refine l_splitd (d := 26) rfl (fun hg26 => ?_) (fun hg26 => ?_)
          · skip
            refine l_x rfl (x_fieldAddr rfl Tryz.runUnderlying45 rfl Tryz.sizeOf3 (by decide)) ?_
            refine l_x rfl (x_load rfl (ld_blk (S2.blk 0 rfl) Tryz.isAgg3 rfl)) ?_
            refine l_x rfl (x_eql rfl rfl) ?_
            refine l_x rfl (x_pick_t rfl rfl) ?_
            refine l_x rfl (x_mv rfl) ?_
            refine l_splitd (d := 31) rfl (fun hg31 => ?_) (fun hg31 => ?_)
            · skip
              refine l_x rfl (x_fieldAddr rfl Tryz.runUnderlying45 rfl Tryz.sizeOf23 (by decide)) ?_
              refine l_x rfl (x_load rfl (ld_blk (S2.blk 0 rfl) Tryz.isAgg23 rfl)) ?_
              refine l_x rfl (x_len (hA.1.le S2.le) rfl Tryz.runUnderlying23) ?_
              refine l_x rfl (x_eql rfl rfl) ?_
              refine l_x rfl (x_pick_t rfl rfl) ?_
              refine l_x rfl (x_mv rfl) ?_
              refine l_splitd (d := 37) rfl (fun hg37 => ?_) (fun hg37 => ?_)
              · skip
                refine l_x rfl (x_fieldAddr rfl Tryz.runUnderlying45 rfl Tryz.sizeOf23 (by decide)) ?_
                refine l_x rfl (x_load rfl (ld_blk (S2.blk 0 rfl) Tryz.isAgg23 rfl)) ?_
                refine l_x rfl (x_len (hA.2.le S2.le) rfl Tryz.runUnderlying23) ?_
                refine l_x rfl (x_eql rfl rfl) ?_
                refine l_x rfl (x_pick_t rfl rfl) ?_
                refine l_x rfl (x_as rfl) ?_
                refine l_nil ?_
                refine r_ret (rs := [.tmp 2]) [_] Tryz.func98 rfl ⟨rfl, trivial⟩ ?_
                exact ⟨congrArg Value.bool (by unfold zeroB; first | (apply decE; omega) | (apply decF; omega)), S2.le⟩
              refine l_pass rfl ?_
              refine l_pass rfl ?_
              refine l_pass rfl ?_
              refine l_pass rfl ?_
              refine l_x rfl (x_pick_f rfl rfl) ?_
              refine l_x rfl (x_as rfl) ?_
              refine l_nil ?_
              refine r_ret (rs := [.tmp 2]) [_] Tryz.func98 rfl ⟨rfl, trivial⟩ ?_
              exact ⟨congrArg Value.bool (by unfold zeroB; first | (apply decE; omega) | (apply decF; omega)), S2.le⟩
            refine l_pass rfl ?_
            refine l_pass rfl ?_
            refine l_pass rfl ?_
            refine l_pass rfl ?_
            refine l_x rfl (x_pick_f rfl rfl) ?_
            refine l_x rfl (x_mv rfl) ?_
            refine l_pass rfl ?_
            refine l_pass rfl ?_
            refine l_pass rfl ?_
            refine l_pass rfl ?_
            refine l_x rfl (x_pick_f rfl rfl) ?_
            refine l_x rfl (x_as rfl) ?_
            refine l_nil ?_
            refine r_ret (rs := [.tmp 2]) [_] Tryz.func98 rfl ⟨rfl, trivial⟩ ?_
            exact ⟨congrArg Value.bool (by unfold zeroB; first | (apply decE; omega) | (apply decF; omega)), S2.le⟩
          refine l_pass rfl ?_
          refine l_pass rfl ?_
          refine l_pass rfl ?_
          refine l_x rfl (x_pick_f rfl rfl) ?_
          refine l_x rfl (x_mv rfl) ?_
          refine l_pass rfl ?_
          refine l_pass rfl ?_
          refine l_pass rfl ?_
          refine l_pass rfl ?_
          refine l_x rfl (x_pick_f rfl rfl) ?_
          refine l_x rfl (x_mv rfl) ?_
          refine l_pass rfl ?_
          refine l_pass rfl ?_
          refine l_pass rfl ?_
          refine l_pass rfl ?_
          refine l_x rfl (x_pick_f rfl rfl) ?_
          refine l_x rfl (x_as rfl) ?_
          refine l_nil ?_
          refine r_ret (rs := [.tmp 2]) [_] Tryz.func98 rfl ⟨rfl, trivial⟩ ?_
          exact ⟨congrArg Value.bool (by unfold zeroB; first | (apply decE; omega) | (apply decF; omega)), S2.le⟩
        refine l_pass rfl ?_
        refine l_pass rfl ?_
        refine l_pass rfl ?_
        refine l_x rfl (x_pick_f rfl rfl) ?_
        refine l_x rfl (x_mv rfl) ?_
        refine l_pass rfl ?_
        refine l_pass rfl ?_
        refine l_pass rfl ?_
        refine l_x rfl (x_pick_f rfl rfl) ?_
        refine l_x rfl (x_mv rfl) ?_
        refine l_pass rfl ?_
        refine l_pass rfl ?_
        refine l_pass rfl ?_
        refine l_pass rfl ?_
        refine l_x rfl (x_pick_f rfl rfl) ?_
        refine l_x rfl (x_mv rfl) ?_
        refine l_pass rfl ?_
        refine l_pass rfl ?_
        refine l_pass rfl ?_
        refine l_pass rfl ?_
        refine l_x rfl (x_pick_f rfl rfl) ?_
        refine l_x rfl (x_as rfl) ?_
        refine l_nil ?_
        refine r_ret (rs := [.tmp 2]) [_] Tryz.func98 rfl ⟨rfl, trivial⟩ ?_
        exact ⟨congrArg Value.bool (by unfold zeroB; first | (apply decE; omega) | (apply decF; omega)), S2.le⟩
      refine l_pass rfl ?_
      refine l_pass rfl ?_
      refine l_pass rfl ?_
      refine l_x rfl (x_pick_f rfl rfl) ?_
      refine l_x rfl (x_mv rfl) ?_
      refine l_pass rfl ?_
      refine l_pass rfl ?_
      refine l_pass rfl ?_
      refine l_x rfl (x_pick_f rfl rfl) ?_
      refine l_x rfl (x_mv rfl) ?_
      refine l_pass rfl ?_
      refine l_pass rfl ?_
      refine l_pass rfl ?_
      refine l_x rfl (x_pick_f rfl rfl) ?_
      refine l_x rfl (x_mv rfl) ?_
      refine l_pass rfl ?_
      refine l_pass rfl ?_
      refine l_pass rfl ?_
      refine l_pass rfl ?_
      refine l_x rfl (x_pick_f rfl rfl) ?_
      refine l_x rfl (x_mv rfl) ?_
      refine l_pass rfl ?_
      refine l_pass rfl ?_
      refine l_pass rfl ?_
      refine l_pass rfl ?_
      refine l_x rfl (x_pick_f rfl rfl) ?_
      refine l_x rfl (x_as rfl) ?_
      refine l_nil ?_
      refine r_ret (rs := [.tmp 2]) [_] Tryz.func98 rfl ⟨rfl, trivial⟩ ?_
      exact ⟨congrArg Value.bool (by unfold zeroB; first | (apply decE; omega) | (apply decF; omega)), S2.le⟩
    refine l_pass rfl ?_
    refine l_pass rfl ?_
    refine l_pass rfl ?_
    refine l_x rfl (x_pick_f rfl rfl) ?_
    refine l_x rfl (x_mv rfl) ?_
    refine l_pass rfl ?_
    refine l_pass rfl ?_
    refine l_pass rfl ?_
    refine l_x rfl (x_pick_f rfl rfl) ?_
    refine l_x rfl (x_mv rfl) ?_
    refine l_pass rfl ?_
    refine l_pass rfl ?_
    refine l_pass rfl ?_
    refine l_x rfl (x_pick_f rfl rfl) ?_
    refine l_x rfl (x_mv rfl) ?_
    refine l_pass rfl ?_
    refine l_pass rfl ?_
    refine l_pass rfl ?_
    refine l_x rfl (x_pick_f rfl rfl) ?_
    refine l_x rfl (x_mv rfl) ?_
    refine l_pass rfl ?_
    refine l_pass rfl ?_
    refine l_pass rfl ?_
    refine l_pass rfl ?_
    refine l_x rfl (x_pick_f rfl rfl) ?_
    refine l_x rfl (x_mv rfl) ?_
    refine l_pass rfl ?_
    refine l_pass rfl ?_
    refine l_pass rfl ?_
    refine l_pass rfl ?_
    refine l_x rfl (x_pick_f rfl rfl) ?_
    refine l_x rfl (x_as rfl) ?_
    refine l_nil ?_
    refine r_ret (rs := [.tmp 2]) [_] Tryz.func98 rfl ⟨rfl, trivial⟩ ?_
    exact ⟨congrArg Value.bool (by unfold zeroB; first | (apply decE; omega) | (apply decF; omega)), S2.le⟩
  refine l_pass rfl ?_
  refine l_pass rfl ?_
  refine l_pass rfl ?_
  refine l_x rfl (x_pick_f rfl rfl) ?_
  refine l_x rfl (x_mv rfl) ?_
  refine l_pass rfl ?_
  refine l_pass rfl ?_
  refine l_pass rfl ?_
  refine l_x rfl (x_pick_f rfl rfl) ?_
  refine l_x rfl (x_mv rfl) ?_
  refine l_pass rfl ?_
  refine l_pass rfl ?_
  refine l_pass rfl ?_
  refine l_x rfl (x_pick_f rfl rfl) ?_
  refine l_x rfl (x_mv rfl) ?_
  refine l_pass rfl ?_
  refine l_pass rfl ?_
  refine l_pass rfl ?_
  refine l_x rfl (x_pick_f rfl rfl) ?_
  refine l_x rfl (x_mv rfl) ?_
  refine l_pass rfl ?_
  refine l_pass rfl ?_
  refine l_pass rfl ?_
  refine l_x rfl (x_pick_f rfl rfl) ?_
  refine l_x rfl (x_mv rfl) ?_
  refine l_pass rfl ?_
  refine l_pass rfl ?_
  refine l_pass rfl ?_
  refine l_pass rfl ?_
  refine l_x rfl (x_pick_f rfl rfl) ?_
  refine l_x rfl (x_mv rfl) ?_
  refine l_pass rfl ?_
  refine l_pass rfl ?_
  refine l_pass rfl ?_
  refine l_pass rfl ?_
  refine l_x rfl (x_pick_f rfl rfl) ?_
  refine l_x rfl (x_as rfl) ?_
  refine l_nil ?_
  refine r_ret (rs := [.tmp 2]) [_] Tryz.func98 rfl ⟨rfl, trivial⟩ ?_
  exact ⟨congrArg Value.bool (by unfold zeroB; first | (apply decE; omega) | (apply decF; omega)), S2.le⟩

/-- couchant/deed.heirs$1. -/
theorem c_heirs1 (x : Int) (w : World) :
    Cl Tryz.prog 115 #[.int .i64 x] w fun v w' => v = .bool (!rng x 1 1000) ∧ Le w w' := by
  refine fn_of_run (args := [_]) 6 Tryz.func115 rfl rfl rfl fun cs => ?_
  have S := Own.start (X := nob) w
  refine r_seq ?_
  refine r_region ?_
  refine l_x rfl (x_as rfl) ?_
  refine l_nil ?_
  refine r_seq ?_
  refine r_region ?_
  refine l_x rfl (x_mv rfl) ?_
  refine l_call [] [] [_, _, _] rfl rfl Tryz.call76 rfl (c_in _ _ _ _) ?_
  rintro _ w1 ⟨rfl, hl3⟩
  have S2 := S.step hl3
  refine l_x rfl (x_not rfl) ?_
  refine l_x rfl (x_as rfl) ?_
  refine l_nil ?_
  refine r_ret (rs := [.tmp 2]) [_] Tryz.func115 rfl ⟨rfl, trivial⟩ ?_
  exact ⟨rfl, S2.le⟩

set_option maxHeartbeats 2000000 in
/-- couchant/deed.heirs. -/
theorem c_heirs (a : Rw) (w : World) (hA : SubR 3 w a) :
    Cl Tryz.prog 97 #[.agg (encD a).toArray] w fun v w' => v = .bool (heirsB a.1) ∧ Le w w' := by
  have hm1 : a.1.heirs.length ≤ 9223372036854775807 := by have := hA.3; omega
  have hm2 : a.1.shares.length ≤ 9223372036854775807 := by have := hA.4; omega
  refine fn_of_run (args := [_]) 53 Tryz.func97 rfl rfl rfl fun cs => ?_
  have S := Own.start (X := nob) w
  refine r_seq ?_
  refine r_region ?_
  refine l_box S rfl rfl ?_
  intro b4 w1 S2 hl3
  refine l_x rfl (x_as rfl) ?_
  refine l_nil ?_
  refine r_seq ?_
  refine r_seq ?_
  refine r_region ?_
  refine l_x rfl (x_fieldAddr rfl Tryz.runUnderlying45 rfl Tryz.sizeOf23 (by decide)) ?_
  refine l_x rfl (x_load rfl (ld_blk (S2.blk 0 rfl) Tryz.isAgg23 rfl)) ?_
  refine l_x rfl (x_len (hA.1.le S2.le) rfl Tryz.runUnderlying23) ?_
  refine l_call [] [] [_, _, _] rfl rfl Tryz.call76 rfl (c_in _ _ _ _) ?_
  rintro _ w5 ⟨rfl, hl7⟩
  have S6 := S2.step hl7
  refine l_x rfl (x_not rfl) ?_
  refine l_x rfl (x_mv rfl) ?_
  refine l_split (d := 11) rfl (fun hg11 => ?_) (fun hg11 => ?_)
  · skip
    refine l_pass rfl ?_
    refine l_pass rfl ?_
    refine l_pass rfl ?_
    refine l_pass rfl ?_
    refine l_pass rfl ?_
    refine l_pass rfl ?_
    refine l_pass rfl ?_
    refine l_x rfl (x_pick_t rfl rfl) ?_
    refine l_x rfl (x_mv rfl) ?_
    refine l_pass rfl ?_
    refine l_pass rfl ?_
    refine l_pass rfl ?_
    refine l_pass rfl ?_
    refine l_pass rfl ?_
    refine l_x rfl (x_pick_t rfl rfl) ?_
    refine l_x rfl (x_mv rfl) ?_
    refine l_pass rfl ?_
    refine l_pass rfl ?_
    refine l_pass rfl ?_
    refine l_pass rfl ?_
    refine l_x rfl (x_pick_t rfl rfl) ?_
    refine l_nil ?_
    refine r_true rfl ?_
    refine r_seq ?_
    refine r_region ?_
    refine l_x rfl (x_as rfl) ?_
    refine l_nil ?_
    refine r_ret (rs := [.tmp 2]) [_] Tryz.func97 rfl ⟨rfl, trivial⟩ ?_
    exact ⟨congrArg Value.bool (heirs_no (by intros; simp_all)).symm, S6.le⟩
  refine l_x rfl (x_fieldAddr rfl Tryz.runUnderlying45 rfl Tryz.sizeOf23 (by decide)) ?_
  refine l_x rfl (x_load rfl (ld_blk (S6.blk 0 rfl) Tryz.isAgg23 rfl)) ?_
  refine l_x rfl (x_len (hA.2.le S6.le) rfl Tryz.runUnderlying23) ?_
  refine l_x rfl (x_fieldAddr rfl Tryz.runUnderlying45 rfl Tryz.sizeOf23 (by decide)) ?_
  refine l_x rfl (x_load rfl (ld_blk (S6.blk 0 rfl) Tryz.isAgg23 rfl)) ?_
  refine l_x rfl (x_len (hA.1.le S6.le) rfl Tryz.runUnderlying23) ?_
  refine l_x rfl (x_neq rfl rfl) ?_
  refine l_x rfl (x_pick_f rfl rfl) ?_
  refine l_x rfl (x_mv rfl) ?_
  refine l_splitd (d := 20) rfl (fun hg20 => ?_) (fun hg20 => ?_)
  · skip
    refine l_pass rfl ?_
    refine l_pass rfl ?_
    refine l_pass rfl ?_
    refine l_pass rfl ?_
    refine l_pass rfl ?_
    refine l_x rfl (x_pick_t rfl rfl) ?_
    refine l_x rfl (x_mv rfl) ?_
    refine l_pass rfl ?_
    refine l_pass rfl ?_
    refine l_pass rfl ?_
    refine l_pass rfl ?_
    refine l_x rfl (x_pick_t rfl rfl) ?_
    refine l_nil ?_
    refine r_true rfl ?_
    refine r_seq ?_
    refine r_region ?_
    refine l_x rfl (x_as rfl) ?_
    refine l_nil ?_
    refine r_ret (rs := [.tmp 2]) [_] Tryz.func97 rfl ⟨rfl, trivial⟩ ?_
    exact ⟨congrArg Value.bool (heirs_no (by intros; simp_all)).symm, S6.le⟩
  refine l_x rfl (x_fieldAddr rfl Tryz.runUnderlying45 rfl Tryz.sizeOf3 (by decide)) ?_
  refine l_x rfl (x_load rfl (ld_blk (S6.blk 0 rfl) Tryz.isAgg3 rfl)) ?_
  refine l_buildSlice EI [a.1.frm] S6 rfl Tryz.runUnderlying23 Tryz.sizeOf3 Tryz.zeroValue3 rfl ⟨rfl, rfl, trivial⟩ (Nat.le_of_ble_eq_true rfl) ?_
  intro v11 w8 S9 hl10
  refine l_call [] [] [_] rfl rfl Tryz.call42 rfl (c_owned _ _ (by first | omega | exact Nat.le_of_ble_eq_true rfl) _ (vec_rd (S9.at 1 rfl))) ?_
  rintro _ w12 ⟨rfl, hl14⟩
  have S13 := S9.step hl14
  refine l_x rfl (x_not rfl) ?_
  refine l_x rfl (x_pick_f rfl rfl) ?_
  refine l_x rfl (x_mv rfl) ?_
  refine l_split (d := 27) rfl (fun hg27 => ?_) (fun hg27 => ?_)
  · skip
    refine l_pass rfl ?_
    refine l_pass rfl ?_
    refine l_pass rfl ?_
    refine l_pass rfl ?_
    refine l_x rfl (x_pick_t rfl rfl) ?_
    refine l_nil ?_
    refine r_true rfl ?_
    refine r_seq ?_
    refine r_region ?_
    refine l_x rfl (x_as rfl) ?_
    refine l_nil ?_
    refine r_ret (rs := [.tmp 2]) [_] Tryz.func97 rfl ⟨rfl, trivial⟩ ?_
    exact ⟨congrArg Value.bool (heirs_no (by intros; simp_all)).symm, S13.le⟩
  refine l_x rfl (x_fieldAddr rfl Tryz.runUnderlying45 rfl Tryz.sizeOf23 (by decide)) ?_
  refine l_x rfl (x_load rfl (ld_blk (S13.blk 0 rfl) Tryz.isAgg23 rfl)) ?_
  refine l_call [] [] [_] rfl rfl Tryz.call42 rfl (c_owned _ _ hm1 _ (hA.1.le S13.le)) ?_
  rintro _ w15 ⟨rfl, hl17⟩
  have S16 := S13.step hl17
  refine l_x rfl (x_not rfl) ?_
  refine l_x rfl (x_pick_f rfl rfl) ?_
  refine l_nil ?_
  refine r_if rfl (fun hc32 => ?_) (fun hc32 => ?_)
  · skip
    refine r_seq ?_
    refine r_region ?_
    refine l_x rfl (x_as rfl) ?_
    refine l_nil ?_
    refine r_ret (rs := [.tmp 2]) [_] Tryz.func97 rfl ⟨rfl, trivial⟩ ?_
    exact ⟨congrArg Value.bool (heirs_no (by intros; simp_all)).symm, S16.le⟩
  have hH0 : rng (a.1.heirs.length : Int) 1 10 = true ∧ (a.1.shares.length : Int) = a.1.heirs.length ∧ own a.1.frm = true ∧ a.1.heirs.all own = true := ⟨by simp_all, by first | assumption | omega, by simp_all, by simp_all⟩
  refine r_skip ?_
  refine r_seq ?_
  refine r_seq ?_
  refine r_region ?_
  refine l_x rfl (x_fieldAddr rfl Tryz.runUnderlying45 rfl Tryz.sizeOf23 (by decide)) ?_
  refine l_x rfl (x_load rfl (ld_blk (S16.blk 0 rfl) Tryz.isAgg23 rfl)) ?_
  refine l_call [] [] [_, _] rfl rfl Tryz.call74 rfl (c_ContainsFuncInt _ a.1.shares (fun x => !rng x 1 1000) 115 [] hm2 _ (hA.2.le S16.le) Tryz.call115 (fun x _ w1 _ => c_heirs1 x w1)) ?_
  rintro _ w18 ⟨rfl, hl20⟩
  have S19 := S16.step hl20
  refine l_nil ?_
  refine r_if rfl (fun hc35 => ?_) (fun hc35 => ?_)
  · skip
    refine r_seq ?_
    refine r_region ?_
    refine l_x rfl (x_as rfl) ?_
    refine l_nil ?_
    refine r_ret (rs := [.tmp 2]) [_] Tryz.func97 rfl ⟨rfl, trivial⟩ ?_
    exact ⟨congrArg Value.bool (heirs_sh hc35).symm, S19.le⟩
  have hH1 : a.1.shares.all (fun n => rng n 1 1000) = true := by rw [← all_not_any]; simpa using hc35
  refine r_skip ?_
  refine r_seq ?_
  refine r_region ?_
  refine l_makeMap kInt Value.bool S19 rfl ?_
  intro m24 w21 S22 hl23
  refine l_x rfl (x_fieldAddr rfl Tryz.runUnderlying45 rfl Tryz.sizeOf3 (by decide)) ?_
  refine l_x rfl (x_load rfl (ld_blk (S22.blk 0 rfl) Tryz.isAgg3 rfl)) ?_
  refine l_insert S22 2 rfl rfl keyI Tryz.runUnderlying86 rfl rfl rfl ?_
  intro w25 S26 hk27
  rw [setM_nil, setM_cons] at S26
  refine l_x rfl (x_mv rfl) ?_
  refine l_x rfl (x_as rfl) ?_
  refine l_nil ?_
  refine r_seq ?_
  refine r_seq ?_
  refine r_region ?_
  refine l_x rfl (x_fieldAddr rfl Tryz.runUnderlying45 rfl Tryz.sizeOf23 (by decide)) ?_
  refine l_x rfl (x_load rfl (ld_blk (S26.blk 0 rfl) Tryz.isAgg23 rfl)) ?_
  refine l_x rfl (x_len (hA.1.le S26.le) rfl Tryz.runUnderlying23) ?_
  refine l_x rfl (x_mv rfl) ?_
  refine l_nil ?_
  refine r_block ?_
  refine r_loop (G := Nat × List Int) (fun ⟨i, seen⟩ => a.1.heirs.length - i) (fun ⟨i, seen⟩ => [(3, .map (some m24)), (41, hv a.2.1), (42, .int .i64 a.1.heirs.length), (43, .int .i64 i)]) (fun ⟨i, seen⟩ w' => (i ≤ a.1.heirs.length) ∧ (fresh [a.1.frm] a.1.heirs = fresh seen (a.1.heirs.drop i)) ∧ Own nob w w' [mapr kInt Value.bool m24 (setM seen)]) (0, [a.1.frm]) ⟨rfl, rfl, rfl, rfl, trivial⟩ ⟨Nat.zero_le _, by rw [List.drop_zero], (S26.pick [2] (by decide) rfl)⟩ ?_
  rintro ⟨i, seen⟩ ρ w1 ⟨hi, hf, S1⟩ IH
  refine r_seq ?_
  refine r_region ?_
  refine l_x rfl (x_lss rfl rfl) ?_
  refine l_nil ?_
  refine r_seq ?_
  refine r_ifd rfl (fun hc44 => ?_) (fun hc44 => ?_)
  · skip
    obtain ⟨y, hy⟩ : ∃ y, a.1.heirs[i]? = some y := ⟨_, List.getElem?_eq_getElem (by omega)⟩
    refine r_skip ?_
    refine r_seq ?_
    refine r_block ?_
    refine r_seq ?_
    refine r_region ?_
    refine l_index EI rfl (hA.1.le S1.le) rfl rfl Tryz.runUnderlying23 Tryz.sizeOf3 (by omega) (by first | assumption | exact List.getElem?_eq_getElem (by omega)) ?_
    intro b28 o29 hat30 row31
    refine l_x rfl (x_load rfl (ld_cell Tryz.isAgg3 (row31 0 _ rfl))) ?_
    refine l_x rfl (x_as rfl) ?_
    refine l_nil ?_
    refine r_seq ?_
    refine r_seq ?_
    refine r_region ?_
    refine l_x rfl (x_mv rfl) ?_
    refine l_x rfl (x_mv rfl) ?_
    refine l_x rfl (x_lookup (S1.at 0 rfl) keyI Tryz.runUnderlying86 rfl rfl Tryz.zeroValue4 setM_get) ?_
    refine l_nil ?_
    refine r_if rfl (fun hc49 => ?_) (fun hc49 => ?_)
    · skip
      refine r_seq ?_
      refine r_region ?_
      refine l_x rfl (x_as rfl) ?_
      refine l_nil ?_
      refine r_ret (rs := [.tmp 2]) [_] Tryz.func97 rfl ⟨rfl, trivial⟩ ?_
      exact ⟨congrArg Value.bool (by rw [heirs_ok hH0 hH1, hf, fresh_no hy hc49]), S1.le⟩
    refine r_skip ?_
    refine r_region ?_
    refine l_x rfl (x_mv rfl) ?_
    refine l_x rfl (x_mv rfl) ?_
    refine l_mapUpdate S1 0 rfl rfl keyI Tryz.runUnderlying86 rfl rfl rfl ?_
    intro w32 S33 hk34
    refine l_nil ?_
    refine r_inBlock ?_
    refine r_region ?_
    refine l_x rfl (x_add rfl rfl (by omega)) ?_
    refine l_x rfl (x_mv rfl) ?_
    refine l_nil ?_
    exact IH (i + 1, y :: seen) _ _ (by dsimp only; omega) ⟨rfl, rfl, rfl, rfl, trivial⟩ ⟨by omega, by rw [hf, fresh_step hy (by simpa using hc49)], (by rw [← setM_cons]; exact S33)⟩
  have hie : i = a.1.heirs.length := by omega
  subst hie
  refine r_exit rfl ?_
  refine r_seq ?_
  refine r_region ?_
  refine l_x rfl (x_as rfl) ?_
  refine l_nil ?_
  refine r_ret (rs := [.tmp 2]) [_] Tryz.func97 rfl ⟨rfl, trivial⟩ ?_
  exact ⟨congrArg Value.bool (by rw [heirs_ok hH0 hH1, hf, List.drop_length]; rfl), S1.le⟩

end Go.Proofs

/-
  Contracts of functions of the program: each by symbolic execution of its text.
-/
namespace Go.Proofs
open Go Go.Vk Go.Vk.Flow

open Go.Vk.Deed
theorem rd_nil {α : Type} {E : Elt α} {w : World} : Rd E w (.slice none 0 0) [] := ⟨none, 0, rfl, Nat.le_refl _, fun i a h => by simp at h⟩

set_option maxHeartbeats 4000000 in
/-- couchant/deed.formed. -/
theorem c_formed (a : Rw) (w : World) (hA : SubR 3 w a) :
    Cl Tryz.prog 66 #[.agg (encD a).toArray] w fun v w' => v = .bool (formed a.1) ∧ Le w w' := by
  refine fn_of_run (args := [_]) 114 Tryz.func66 rfl rfl rfl fun cs => ?_
  have S := Own.start (X := nob) w
  refine r_seq ?_
  refine r_region ?_
  refine l_box S rfl rfl ?_
  intro b4 w1 S2 hl3
  refine l_x rfl (x_as rfl) ?_
  refine l_nil ?_
  refine r_seq ?_
  refine r_seq ?_
  refine r_region ?_
  refine l_x rfl (x_fieldAddr rfl Tryz.runUnderlying45 rfl Tryz.sizeOf3 (by decide)) ?_
  refine l_x rfl (x_load rfl (ld_blk (S2.blk 0 rfl) Tryz.isAgg3 rfl)) ?_
  refine l_call [] [] [_, _, _] rfl rfl Tryz.call76 rfl (c_in _ _ _ _) ?_
  rintro _ w5 ⟨rfl, hl7⟩
  have S6 := S2.step hl7
  refine l_x rfl (x_not rfl) ?_
  refine l_x rfl (x_mv rfl) ?_
  refine l_split (d := 12) rfl (fun hg12 => ?_) (fun hg12 => ?_)
  · skip
    refine l_pass rfl ?_
    refine l_pass rfl ?_
    refine l_pass rfl ?_
    refine l_pass rfl ?_
    refine l_x rfl (x_pick_t rfl rfl) ?_
    refine l_x rfl (x_mv rfl) ?_
    refine l_pass rfl ?_
    refine l_pass rfl ?_
    refine l_pass rfl ?_
    refine l_pass rfl ?_
    refine l_x rfl (x_pick_t rfl rfl) ?_
    refine l_nil ?_
    refine r_true rfl ?_
    refine r_seq ?_
    refine r_region ?_
    refine l_x rfl (x_as rfl) ?_
    refine l_nil ?_
    refine r_ret (rs := [.tmp 2]) [_] Tryz.func66 rfl ⟨rfl, trivial⟩ ?_
    exact ⟨congrArg Value.bool (formed_bad (by simp_all [headB])).symm, S6.le⟩
  refine l_x rfl (x_fieldAddr rfl Tryz.runUnderlying45 rfl Tryz.sizeOf3 (by decide)) ?_
  refine l_x rfl (x_load rfl (ld_blk (S6.blk 0 rfl) Tryz.isAgg3 rfl)) ?_
  refine l_call [] [] [_, _, _] rfl rfl Tryz.call76 rfl (c_in _ _ _ _) ?_
  rintro _ w8 ⟨rfl, hl10⟩
  have S9 := S6.step hl10
  refine l_x rfl (x_not rfl) ?_
  refine l_x rfl (x_pick_f rfl rfl) ?_
  refine l_x rfl (x_mv rfl) ?_
  refine l_split (d := 18) rfl (fun hg18 => ?_) (fun hg18 => ?_)
  · skip
    refine l_pass rfl ?_
    refine l_pass rfl ?_
    refine l_pass rfl ?_
    refine l_pass rfl ?_
    refine l_x rfl (x_pick_t rfl rfl) ?_
    refine l_nil ?_
    refine r_true rfl ?_
    refine r_seq ?_
    refine r_region ?_
    refine l_x rfl (x_as rfl) ?_
    refine l_nil ?_
    refine r_ret (rs := [.tmp 2]) [_] Tryz.func66 rfl ⟨rfl, trivial⟩ ?_
    exact ⟨congrArg Value.bool (formed_bad (by simp_all [headB])).symm, S9.le⟩
  refine l_x rfl (x_fieldAddr rfl Tryz.runUnderlying45 rfl Tryz.sizeOf3 (by decide)) ?_
  refine l_x rfl (x_load rfl (ld_blk (S9.blk 0 rfl) Tryz.isAgg3 rfl)) ?_
  refine l_call [] [] [_, _, _] rfl rfl Tryz.call76 rfl (c_in _ _ _ _) ?_
  rintro _ w11 ⟨rfl, hl13⟩
  have S12 := S9.step hl13
  refine l_x rfl (x_not rfl) ?_
  refine l_x rfl (x_pick_f rfl rfl) ?_
  refine l_nil ?_
  refine r_if rfl (fun hc23 => ?_) (fun hc23 => ?_)
  · skip
    refine r_seq ?_
    refine r_region ?_
    refine l_x rfl (x_as rfl) ?_
    refine l_nil ?_
    refine r_ret (rs := [.tmp 2]) [_] Tryz.func66 rfl ⟨rfl, trivial⟩ ?_
    exact ⟨congrArg Value.bool (formed_bad (by simp_all [headB])).symm, S12.le⟩
  have hH : headB a.1 = true := by simp_all [headB]
  have hid := hH
  simp only [headB, rng, Bool.and_eq_true, decide_eq_true_eq] at hid
  refine r_skip ?_
  refine r_seq ?_
  refine r_cutS S12 [(1, .pointer (some ⟨b4, 0, none⟩)), (3, .bool (rng a.1.parts 1 1000000000)), (4, .bool (twoB a.1))] (True) (fun ρ w14 hp16 S15 => ?_) (fun HK17 => ?_)
  · skip
    refine r_seq ?_
    refine r_region ?_
    refine l_x rfl (x_fieldAddr rfl Tryz.runUnderlying45 rfl Tryz.sizeOf3 (by decide)) ?_
    refine l_x rfl (x_load rfl (ld_blk (S15.blk 0 rfl) Tryz.isAgg3 rfl)) ?_
    refine l_x rfl (x_fieldAddr rfl Tryz.runUnderlying45 rfl Tryz.sizeOf3 (by decide)) ?_
    refine l_x rfl (x_load rfl (ld_blk (S15.blk 0 rfl) Tryz.isAgg3 rfl)) ?_
    refine l_x rfl (x_sub rfl rfl (by omega)) ?_
    refine l_call [] [] [_, _, _] rfl rfl Tryz.call76 rfl (c_in _ _ _ _) ?_
    rintro _ w18 ⟨rfl, hl20⟩
    have S19 := S15.step hl20
    refine l_x rfl (x_as rfl) ?_
    refine l_nil ?_
    refine r_seq ?_
    refine r_region ?_
    refine l_x rfl (x_load rfl (ld_blks (S19.blk 0 rfl) Tryz.isAgg45 Tryz.sizeOf45 rfl rfl)) ?_
    refine l_call [] [] [_] rfl rfl Tryz.call96 rfl (c_bare a _ (hA.le S19.le)) ?_
    rintro _ w21 ⟨rfl, hl23⟩
    have S22 := S19.step hl23
    refine l_alloc S22 rfl Tryz.zeroValue45 rfl ?_
    intro b27 w24 S25 hl26
    refine l_stores (vs := [_, _, _, _, _, _, _, _, _, _, _]) S25 1 rfl rfl rfl rfl (ones_cons rfl (ones_cons rfl (ones_cons rfl (ones_cons rfl (ones_cons rfl (ones_cons rfl (ones_cons rfl (ones_cons rfl (ones_cons rfl (ones_cons (Rd.one (hA.1.le S25.le)) (ones_cons (Rd.one (hA.2.le S25.le)) ones_nil))))))))))) Tryz.sizeOf45 (by first | exact Nat.le_refl _ | simp) (splice_all rfl) ?_
    intro w28 S29 hk30
    refine l_nil ?_
    refine r_seq ?_
    refine r_region ?_
    refine l_x rfl (x_as rfl) ?_
    refine l_nil ?_
    refine r_seq ?_
    refine r_seq ?_
    refine r_region ?_
    refine l_x rfl (x_fieldAddr rfl Tryz.runUnderlying45 rfl Tryz.sizeOf5 (by decide)) ?_
    refine l_x rfl (x_load rfl (ld_blk (S29.blk 0 rfl) Tryz.isAgg5 rfl)) ?_
    refine l_nil ?_
    refine r_block ?_
    refine r_seq ?_
    refine r_region ?_
    refine l_x rfl (x_eql rfl rfl) ?_
    refine l_x rfl (x_as rfl) ?_
    refine l_nil ?_
    refine r_ifd rfl (fun hc50 => ?_) (fun hc50 => ?_)
    · skip
      refine r_seq ?_
      refine r_region ?_
      refine l_x rfl (x_fieldAddr rfl Tryz.runUnderlying45 rfl Tryz.sizeOf3 (by decide)) ?_
      refine l_x rfl (x_load rfl (ld_blk (S29.blk 0 rfl) Tryz.isAgg3 rfl)) ?_
      refine l_buildSlice EI [a.1.to] S29 rfl Tryz.runUnderlying23 Tryz.sizeOf3 Tryz.zeroValue3 rfl ⟨rfl, rfl, trivial⟩ (Nat.le_of_ble_eq_true rfl) ?_
      intro v34 w31 S32 hl33
      refine l_call [] [] [_] rfl rfl Tryz.call42 rfl (c_owned _ _ (by first | omega | exact Nat.le_of_ble_eq_true rfl) _ (vec_rd (S32.at 2 rfl))) ?_
      rintro _ w35 ⟨rfl, hl37⟩
      have S36 := S32.step hl37
      refine l_x rfl (x_mv rfl) ?_
      refine l_split (d := 56) rfl (fun hg56 => ?_) (fun hg56 => ?_)
      · skip
        refine l_x rfl (x_mv rfl) ?_
        refine l_x rfl (x_pick_t rfl rfl) ?_
        refine l_x rfl (x_as rfl) ?_
        refine l_nil ?_
        refine r_region ?_
        refine l_x rfl (x_fieldAddr rfl Tryz.runUnderlying45 rfl Tryz.sizeOf3 (by decide)) ?_
        refine l_storeq (c' := [_, _, _, _, _, _, _, _, _, _, _]) S36 1 rfl rfl rfl rfl rfl Tryz.sizeOf3 (by first | (simp; done) | exact Nat.le_of_ble_eq_true rfl) rfl ?_
        intro w38 S39 hk40
        refine l_x rfl (x_fieldAddr rfl Tryz.runUnderlying45 rfl Tryz.sizeOf3 (by decide)) ?_
        refine l_storeq (c' := [_, _, _, _, _, _, _, _, _, _, _]) S39 1 rfl rfl rfl rfl rfl Tryz.sizeOf3 (by first | (simp; done) | exact Nat.le_of_ble_eq_true rfl) rfl ?_
        intro w41 S42 hk43
        refine l_nil ?_
        refine r_inBlock ?_
        refine r_seq ?_
        refine r_region ?_
        refine l_x rfl (x_mv rfl) ?_
        refine l_x rfl (x_mv rfl) ?_
        refine l_split (d := 110) rfl (fun hg110 => ?_) (fun hg110 => ?_)
        · skip
          refine l_x rfl (x_load rfl (ld_blks (S42.blk 1 rfl) Tryz.isAgg45 Tryz.sizeOf45 rfl rfl)) ?_
          refine l_call [] [] [_] rfl rfl Tryz.call98 rfl (c_zero ({ bareD a.1 with to := 0, parts := 0 }, a.2) _ ⟨hA.1.le S42.le, hA.2.le S42.le, hA.3, hA.4⟩) ?_
          rintro _ w44 ⟨rfl, hl46⟩
          have S45 := S42.step hl46
          refine l_x rfl (x_pick_t rfl rfl) ?_
          refine l_x rfl (x_as rfl) ?_
          refine l_nil ?_
          refine r_ret (rs := [.tmp 2]) [_] Tryz.func66 rfl ⟨rfl, trivial⟩ ?_
          exact ⟨congrArg Value.bool (by rw [formed1 hH hc50]; simp_all), S45.le⟩
        refine l_pass rfl ?_
        refine l_pass rfl ?_
        refine l_x rfl (x_pick_f rfl rfl) ?_
        refine l_x rfl (x_as rfl) ?_
        refine l_nil ?_
        refine r_ret (rs := [.tmp 2]) [_] Tryz.func66 rfl ⟨rfl, trivial⟩ ?_
        exact ⟨congrArg Value.bool (by rw [formed1 hH hc50]; simp_all), S42.le⟩
      refine l_pass rfl ?_
      refine l_x rfl (x_pick_f rfl rfl) ?_
      refine l_x rfl (x_as rfl) ?_
      refine l_nil ?_
      refine r_region ?_
      refine l_x rfl (x_fieldAddr rfl Tryz.runUnderlying45 rfl Tryz.sizeOf3 (by decide)) ?_
      refine l_storeq (c' := [_, _, _, _, _, _, _, _, _, _, _]) S36 1 rfl rfl rfl rfl rfl Tryz.sizeOf3 (by first | (simp; done) | exact Nat.le_of_ble_eq_true rfl) rfl ?_
      intro w47 S48 hk49
      refine l_x rfl (x_fieldAddr rfl Tryz.runUnderlying45 rfl Tryz.sizeOf3 (by decide)) ?_
      refine l_storeq (c' := [_, _, _, _, _, _, _, _, _, _, _]) S48 1 rfl rfl rfl rfl rfl Tryz.sizeOf3 (by first | (simp; done) | exact Nat.le_of_ble_eq_true rfl) rfl ?_
      intro w50 S51 hk52
      refine l_nil ?_
      refine r_inBlock ?_
      refine r_seq ?_
      refine r_region ?_
      refine l_x rfl (x_mv rfl) ?_
      refine l_x rfl (x_mv rfl) ?_
      refine l_pass rfl ?_
      refine l_pass rfl ?_
      refine l_x rfl (x_pick_f rfl rfl) ?_
      refine l_x rfl (x_as rfl) ?_
      refine l_nil ?_
      refine r_ret (rs := [.tmp 2]) [_] Tryz.func66 rfl ⟨rfl, trivial⟩ ?_
      exact ⟨congrArg Value.bool (by rw [formed1 hH hc50]; simp_all), S51.le⟩
    refine r_seq ?_
    refine r_seq ?_
    refine r_region ?_
    refine l_x rfl (x_eql rfl rfl) ?_
    refine l_x rfl (x_as rfl) ?_
    refine l_nil ?_
    refine r_ifd rfl (fun hc61 => ?_) (fun hc61 => ?_)
    · skip
      have hkd61 : a.1.kind = 2 ∨ a.1.kind = 5 := .inl hc61
      have hq61 := hc61
      refine r_skip ?_
      refine r_ifd rfl (fun hc61 => ?_) (fun hc61 => ?_)
      · skip
        refine r_seq ?_
        refine r_region ?_
        refine l_x rfl (x_mv rfl) ?_
        refine l_x rfl (x_mv rfl) ?_
        refine l_split (d := 65) rfl (fun hg65 => ?_) (fun hg65 => ?_)
        · skip
          refine l_x rfl (x_mv rfl) ?_
          refine l_x rfl (x_pick_t rfl rfl) ?_
          refine l_x rfl (x_as rfl) ?_
          refine l_nil ?_
          refine r_region ?_
          refine l_x rfl (x_fieldAddr rfl Tryz.runUnderlying45 rfl Tryz.sizeOf3 (by decide)) ?_
          refine l_storeq (c' := [_, _, _, _, _, _, _, _, _, _, _]) S29 1 rfl rfl rfl rfl rfl Tryz.sizeOf3 (by first | (simp; done) | exact Nat.le_of_ble_eq_true rfl) rfl ?_
          intro w53 S54 hk55
          refine l_x rfl (x_fieldAddr rfl Tryz.runUnderlying45 rfl Tryz.sizeOf3 (by decide)) ?_
          refine l_storeq (c' := [_, _, _, _, _, _, _, _, _, _, _]) S54 1 rfl rfl rfl rfl rfl Tryz.sizeOf3 (by first | (simp; done) | exact Nat.le_of_ble_eq_true rfl) rfl ?_
          intro w56 S57 hk58
          refine l_x rfl (x_fieldAddr rfl Tryz.runUnderlying45 rfl Tryz.sizeOf3 (by decide)) ?_
          refine l_storeq (c' := [_, _, _, _, _, _, _, _, _, _, _]) S57 1 rfl rfl rfl rfl rfl Tryz.sizeOf3 (by first | (simp; done) | exact Nat.le_of_ble_eq_true rfl) rfl ?_
          intro w59 S60 hk61
          refine l_nil ?_
          refine r_inBlock ?_
          refine r_seq ?_
          refine r_region ?_
          refine l_x rfl (x_mv rfl) ?_
          refine l_x rfl (x_mv rfl) ?_
          refine l_split (d := 110) rfl (fun hg110 => ?_) (fun hg110 => ?_)
          · skip
            refine l_x rfl (x_load rfl (ld_blks (S60.blk 1 rfl) Tryz.isAgg45 Tryz.sizeOf45 rfl rfl)) ?_
            refine l_call [] [] [_] rfl rfl Tryz.call98 rfl (c_zero ({ bareD a.1 with frm := 0, to := 0, parts := 0 }, a.2) _ ⟨hA.1.le S60.le, hA.2.le S60.le, hA.3, hA.4⟩) ?_
            rintro _ w62 ⟨rfl, hl64⟩
            have S63 := S60.step hl64
            refine l_x rfl (x_pick_t rfl rfl) ?_
            refine l_x rfl (x_as rfl) ?_
            refine l_nil ?_
            refine r_ret (rs := [.tmp 2]) [_] Tryz.func66 rfl ⟨rfl, trivial⟩ ?_
            exact ⟨congrArg Value.bool (by rw [formed25 hH hkd61]; simp_all), S63.le⟩
          refine l_pass rfl ?_
          refine l_pass rfl ?_
          refine l_x rfl (x_pick_f rfl rfl) ?_
          refine l_x rfl (x_as rfl) ?_
          refine l_nil ?_
          refine r_ret (rs := [.tmp 2]) [_] Tryz.func66 rfl ⟨rfl, trivial⟩ ?_
          exact ⟨congrArg Value.bool (by rw [formed25 hH hkd61]; simp_all), S60.le⟩
        refine l_pass rfl ?_
        refine l_x rfl (x_pick_f rfl rfl) ?_
        refine l_x rfl (x_as rfl) ?_
        refine l_nil ?_
        refine r_region ?_
        refine l_x rfl (x_fieldAddr rfl Tryz.runUnderlying45 rfl Tryz.sizeOf3 (by decide)) ?_
        refine l_storeq (c' := [_, _, _, _, _, _, _, _, _, _, _]) S29 1 rfl rfl rfl rfl rfl Tryz.sizeOf3 (by first | (simp; done) | exact Nat.le_of_ble_eq_true rfl) rfl ?_
        intro w65 S66 hk67
        refine l_x rfl (x_fieldAddr rfl Tryz.runUnderlying45 rfl Tryz.sizeOf3 (by decide)) ?_
        refine l_storeq (c' := [_, _, _, _, _, _, _, _, _, _, _]) S66 1 rfl rfl rfl rfl rfl Tryz.sizeOf3 (by first | (simp; done) | exact Nat.le_of_ble_eq_true rfl) rfl ?_
        intro w68 S69 hk70
        refine l_x rfl (x_fieldAddr rfl Tryz.runUnderlying45 rfl Tryz.sizeOf3 (by decide)) ?_
        refine l_storeq (c' := [_, _, _, _, _, _, _, _, _, _, _]) S69 1 rfl rfl rfl rfl rfl Tryz.sizeOf3 (by first | (simp; done) | exact Nat.le_of_ble_eq_true rfl) rfl ?_
        intro w71 S72 hk73
        refine l_nil ?_
        refine r_inBlock ?_
        refine r_seq ?_
        refine r_region ?_
        refine l_x rfl (x_mv rfl) ?_
        refine l_x rfl (x_mv rfl) ?_
        refine l_pass rfl ?_
        refine l_pass rfl ?_
        refine l_x rfl (x_pick_f rfl rfl) ?_
        refine l_x rfl (x_as rfl) ?_
        refine l_nil ?_
        refine r_ret (rs := [.tmp 2]) [_] Tryz.func66 rfl ⟨rfl, trivial⟩ ?_
        exact ⟨congrArg Value.bool (by rw [formed25 hH hkd61]; simp_all), S72.le⟩
      exact absurd hq61 hc61
    have hn2 := hc61
    refine r_region ?_
    refine l_x rfl (x_eql rfl rfl) ?_
    refine l_x rfl (x_as rfl) ?_
    refine l_nil ?_
    refine r_ifd rfl (fun hc61 => ?_) (fun hc61 => ?_)
    · skip
      have hkd61 : a.1.kind = 2 ∨ a.1.kind = 5 := .inr hc61
      refine r_seq ?_
      refine r_region ?_
      refine l_x rfl (x_mv rfl) ?_
      refine l_x rfl (x_mv rfl) ?_
      refine l_split (d := 65) rfl (fun hg65 => ?_) (fun hg65 => ?_)
      · skip
        refine l_x rfl (x_mv rfl) ?_
        refine l_x rfl (x_pick_t rfl rfl) ?_
        refine l_x rfl (x_as rfl) ?_
        refine l_nil ?_
        refine r_region ?_
        refine l_x rfl (x_fieldAddr rfl Tryz.runUnderlying45 rfl Tryz.sizeOf3 (by decide)) ?_
        refine l_storeq (c' := [_, _, _, _, _, _, _, _, _, _, _]) S29 1 rfl rfl rfl rfl rfl Tryz.sizeOf3 (by first | (simp; done) | exact Nat.le_of_ble_eq_true rfl) rfl ?_
        intro w74 S75 hk76
        refine l_x rfl (x_fieldAddr rfl Tryz.runUnderlying45 rfl Tryz.sizeOf3 (by decide)) ?_
        refine l_storeq (c' := [_, _, _, _, _, _, _, _, _, _, _]) S75 1 rfl rfl rfl rfl rfl Tryz.sizeOf3 (by first | (simp; done) | exact Nat.le_of_ble_eq_true rfl) rfl ?_
        intro w77 S78 hk79
        refine l_x rfl (x_fieldAddr rfl Tryz.runUnderlying45 rfl Tryz.sizeOf3 (by decide)) ?_
        refine l_storeq (c' := [_, _, _, _, _, _, _, _, _, _, _]) S78 1 rfl rfl rfl rfl rfl Tryz.sizeOf3 (by first | (simp; done) | exact Nat.le_of_ble_eq_true rfl) rfl ?_
        intro w80 S81 hk82
        refine l_nil ?_
        refine r_inBlock ?_
        refine r_seq ?_
        refine r_region ?_
        refine l_x rfl (x_mv rfl) ?_
        refine l_x rfl (x_mv rfl) ?_
        refine l_split (d := 110) rfl (fun hg110 => ?_) (fun hg110 => ?_)
        · skip
          refine l_x rfl (x_load rfl (ld_blks (S81.blk 1 rfl) Tryz.isAgg45 Tryz.sizeOf45 rfl rfl)) ?_
          refine l_call [] [] [_] rfl rfl Tryz.call98 rfl (c_zero ({ bareD a.1 with frm := 0, to := 0, parts := 0 }, a.2) _ ⟨hA.1.le S81.le, hA.2.le S81.le, hA.3, hA.4⟩) ?_
          rintro _ w83 ⟨rfl, hl85⟩
          have S84 := S81.step hl85
          refine l_x rfl (x_pick_t rfl rfl) ?_
          refine l_x rfl (x_as rfl) ?_
          refine l_nil ?_
          refine r_ret (rs := [.tmp 2]) [_] Tryz.func66 rfl ⟨rfl, trivial⟩ ?_
          exact ⟨congrArg Value.bool (by rw [formed25 hH hkd61]; simp_all), S84.le⟩
        refine l_pass rfl ?_
        refine l_pass rfl ?_
        refine l_x rfl (x_pick_f rfl rfl) ?_
        refine l_x rfl (x_as rfl) ?_
        refine l_nil ?_
        refine r_ret (rs := [.tmp 2]) [_] Tryz.func66 rfl ⟨rfl, trivial⟩ ?_
        exact ⟨congrArg Value.bool (by rw [formed25 hH hkd61]; simp_all), S81.le⟩
      refine l_pass rfl ?_
      refine l_x rfl (x_pick_f rfl rfl) ?_
      refine l_x rfl (x_as rfl) ?_
      refine l_nil ?_
      refine r_region ?_
      refine l_x rfl (x_fieldAddr rfl Tryz.runUnderlying45 rfl Tryz.sizeOf3 (by decide)) ?_
      refine l_storeq (c' := [_, _, _, _, _, _, _, _, _, _, _]) S29 1 rfl rfl rfl rfl rfl Tryz.sizeOf3 (by first | (simp; done) | exact Nat.le_of_ble_eq_true rfl) rfl ?_
      intro w86 S87 hk88
      refine l_x rfl (x_fieldAddr rfl Tryz.runUnderlying45 rfl Tryz.sizeOf3 (by decide)) ?_
      refine l_storeq (c' := [_, _, _, _, _, _, _, _, _, _, _]) S87 1 rfl rfl rfl rfl rfl Tryz.sizeOf3 (by first | (simp; done) | exact Nat.le_of_ble_eq_true rfl) rfl ?_
      intro w89 S90 hk91
      refine l_x rfl (x_fieldAddr rfl Tryz.runUnderlying45 rfl Tryz.sizeOf3 (by decide)) ?_
      refine l_storeq (c' := [_, _, _, _, _, _, _, _, _, _, _]) S90 1 rfl rfl rfl rfl rfl Tryz.sizeOf3 (by first | (simp; done) | exact Nat.le_of_ble_eq_true rfl) rfl ?_
      intro w92 S93 hk94
      refine l_nil ?_
      refine r_inBlock ?_
      refine r_seq ?_
      refine r_region ?_
      refine l_x rfl (x_mv rfl) ?_
      refine l_x rfl (x_mv rfl) ?_
      refine l_pass rfl ?_
      refine l_pass rfl ?_
      refine l_x rfl (x_pick_f rfl rfl) ?_
      refine l_x rfl (x_as rfl) ?_
      refine l_nil ?_
      refine r_ret (rs := [.tmp 2]) [_] Tryz.func66 rfl ⟨rfl, trivial⟩ ?_
      exact ⟨congrArg Value.bool (by rw [formed25 hH hkd61]; simp_all), S93.le⟩
    refine r_seq ?_
    refine r_region ?_
    refine l_x rfl (x_eql rfl rfl) ?_
    refine l_x rfl (x_as rfl) ?_
    refine l_nil ?_
    refine r_ifd rfl (fun hc71 => ?_) (fun hc71 => ?_)
    · skip
      refine r_seq ?_
      refine r_region ?_
      refine l_x rfl (x_load rfl (ld_blks (S29.blk 0 rfl) Tryz.isAgg45 Tryz.sizeOf45 rfl rfl)) ?_
      refine l_call [] [] [_] rfl rfl Tryz.call97 rfl (c_heirs a _ (hA.le S29.le)) ?_
      rintro _ w95 ⟨rfl, hl97⟩
      have S96 := S29.step hl97
      refine l_x rfl (x_as rfl) ?_
      refine l_nil ?_
      refine r_region ?_
      refine l_x rfl (x_fieldAddr rfl Tryz.runUnderlying45 rfl Tryz.sizeOf3 (by decide)) ?_
      refine l_storeq (c' := [_, _, _, _, _, _, _, _, _, _, _]) S96 1 rfl rfl rfl rfl rfl Tryz.sizeOf3 (by first | (simp; done) | exact Nat.le_of_ble_eq_true rfl) rfl ?_
      intro w98 S99 hk100
      refine l_x rfl (x_fieldAddr rfl Tryz.runUnderlying45 rfl Tryz.sizeOf23 (by decide)) ?_
      refine l_storeq (c' := [_, _, _, _, _, _, _, _, _, _, _]) S99 1 rfl rfl rfl rfl rfl Tryz.sizeOf23 (by first | (simp; done) | exact Nat.le_of_ble_eq_true rfl) rfl ?_
      intro w101 S102 hk103
      refine l_x rfl (x_fieldAddr rfl Tryz.runUnderlying45 rfl Tryz.sizeOf23 (by decide)) ?_
      refine l_storeq (c' := [_, _, _, _, _, _, _, _, _, _, _]) S102 1 rfl rfl rfl rfl rfl Tryz.sizeOf23 (by first | (simp; done) | exact Nat.le_of_ble_eq_true rfl) rfl ?_
      intro w104 S105 hk106
      refine l_nil ?_
      refine r_inBlock ?_
      refine r_seq ?_
      refine r_region ?_
      refine l_x rfl (x_mv rfl) ?_
      refine l_x rfl (x_mv rfl) ?_
      refine l_split (d := 110) rfl (fun hg110 => ?_) (fun hg110 => ?_)
      · skip
        refine l_x rfl (x_load rfl (ld_blks (S105.blk 1 rfl) Tryz.isAgg45 Tryz.sizeOf45 rfl rfl)) ?_
        refine l_call [] [] [_] rfl rfl Tryz.call98 rfl (c_zero ({ bareD a.1 with frm := 0, heirs := [], shares := [] }, (none, 0, 0), (none, 0, 0)) _ ⟨rd_nil, rd_nil, Nat.zero_le _, Nat.zero_le _⟩) ?_
        rintro _ w107 ⟨rfl, hl109⟩
        have S108 := S105.step hl109
        refine l_x rfl (x_pick_t rfl rfl) ?_
        refine l_x rfl (x_as rfl) ?_
        refine l_nil ?_
        refine r_ret (rs := [.tmp 2]) [_] Tryz.func66 rfl ⟨rfl, trivial⟩ ?_
        exact ⟨congrArg Value.bool (by rw [formed3 hH hc71]; simp_all), S108.le⟩
      refine l_pass rfl ?_
      refine l_pass rfl ?_
      refine l_x rfl (x_pick_f rfl rfl) ?_
      refine l_x rfl (x_as rfl) ?_
      refine l_nil ?_
      refine r_ret (rs := [.tmp 2]) [_] Tryz.func66 rfl ⟨rfl, trivial⟩ ?_
      exact ⟨congrArg Value.bool (by rw [formed3 hH hc71]; simp_all), S105.le⟩
    refine r_seq ?_
    refine r_region ?_
    refine l_x rfl (x_eql rfl rfl) ?_
    refine l_x rfl (x_as rfl) ?_
    refine l_nil ?_
    refine r_ifd rfl (fun hc78 => ?_) (fun hc78 => ?_)
    · skip
      refine r_seq ?_
      refine r_region ?_
      refine l_x rfl (x_mv rfl) ?_
      refine l_x rfl (x_mv rfl) ?_
      refine l_split (d := 81) rfl (fun hg81 => ?_) (fun hg81 => ?_)
      · skip
        refine l_x rfl (x_mv rfl) ?_
        refine l_x rfl (x_pick_t rfl rfl) ?_
        refine l_x rfl (x_mv rfl) ?_
        refine l_split (d := 84) rfl (fun hg84 => ?_) (fun hg84 => ?_)
        · skip
          refine l_x rfl (x_fieldAddr rfl Tryz.runUnderlying45 rfl Tryz.sizeOf3 (by decide)) ?_
          refine l_x rfl (x_load rfl (ld_blk (S29.blk 0 rfl) Tryz.isAgg3 rfl)) ?_
          refine l_x rfl (x_fieldAddr rfl Tryz.runUnderlying45 rfl Tryz.sizeOf3 (by decide)) ?_
          refine l_x rfl (x_load rfl (ld_blk (S29.blk 0 rfl) Tryz.isAgg3 rfl)) ?_
          refine l_call [] [] [_, _, _] rfl rfl Tryz.call76 rfl (c_in _ _ _ _) ?_
          rintro _ w110 ⟨rfl, hl112⟩
          have S111 := S29.step hl112
          refine l_x rfl (x_pick_t rfl rfl) ?_
          refine l_x rfl (x_as rfl) ?_
          refine l_nil ?_
          refine r_region ?_
          refine l_x rfl (x_fieldAddr rfl Tryz.runUnderlying45 rfl Tryz.sizeOf3 (by decide)) ?_
          refine l_storeq (c' := [_, _, _, _, _, _, _, _, _, _, _]) S111 1 rfl rfl rfl rfl rfl Tryz.sizeOf3 (by first | (simp; done) | exact Nat.le_of_ble_eq_true rfl) rfl ?_
          intro w113 S114 hk115
          refine l_x rfl (x_fieldAddr rfl Tryz.runUnderlying45 rfl Tryz.sizeOf3 (by decide)) ?_
          refine l_storeq (c' := [_, _, _, _, _, _, _, _, _, _, _]) S114 1 rfl rfl rfl rfl rfl Tryz.sizeOf3 (by first | (simp; done) | exact Nat.le_of_ble_eq_true rfl) rfl ?_
          intro w116 S117 hk118
          refine l_x rfl (x_fieldAddr rfl Tryz.runUnderlying45 rfl Tryz.sizeOf3 (by decide)) ?_
          refine l_storeq (c' := [_, _, _, _, _, _, _, _, _, _, _]) S117 1 rfl rfl rfl rfl rfl Tryz.sizeOf3 (by first | (simp; done) | exact Nat.le_of_ble_eq_true rfl) rfl ?_
          intro w119 S120 hk121
          refine l_x rfl (x_fieldAddr rfl Tryz.runUnderlying45 rfl Tryz.sizeOf3 (by decide)) ?_
          refine l_storeq (c' := [_, _, _, _, _, _, _, _, _, _, _]) S120 1 rfl rfl rfl rfl rfl Tryz.sizeOf3 (by first | (simp; done) | exact Nat.le_of_ble_eq_true rfl) rfl ?_
          intro w122 S123 hk124
          refine l_nil ?_
          refine r_inBlock ?_
          refine r_seq ?_
          refine r_region ?_
          refine l_x rfl (x_mv rfl) ?_
          refine l_x rfl (x_mv rfl) ?_
          refine l_split (d := 110) rfl (fun hg110 => ?_) (fun hg110 => ?_)
          · skip
            refine l_x rfl (x_load rfl (ld_blks (S123.blk 1 rfl) Tryz.isAgg45 Tryz.sizeOf45 rfl rfl)) ?_
            refine l_call [] [] [_] rfl rfl Tryz.call98 rfl (c_zero ({ bareD a.1 with frm := 0, to := 0, parts := 0, stop := 0 }, a.2) _ ⟨hA.1.le S123.le, hA.2.le S123.le, hA.3, hA.4⟩) ?_
            rintro _ w125 ⟨rfl, hl127⟩
            have S126 := S123.step hl127
            refine l_x rfl (x_pick_t rfl rfl) ?_
            refine l_x rfl (x_as rfl) ?_
            refine l_nil ?_
            refine r_ret (rs := [.tmp 2]) [_] Tryz.func66 rfl ⟨rfl, trivial⟩ ?_
            exact ⟨congrArg Value.bool (by rw [formed4 hH hc78]; simp_all), S126.le⟩
          refine l_pass rfl ?_
          refine l_pass rfl ?_
          refine l_x rfl (x_pick_f rfl rfl) ?_
          refine l_x rfl (x_as rfl) ?_
          refine l_nil ?_
          refine r_ret (rs := [.tmp 2]) [_] Tryz.func66 rfl ⟨rfl, trivial⟩ ?_
          exact ⟨congrArg Value.bool (by rw [formed4 hH hc78]; simp_all), S123.le⟩
        refine l_pass rfl ?_
        refine l_pass rfl ?_
        refine l_pass rfl ?_
        refine l_pass rfl ?_
        refine l_pass rfl ?_
        refine l_x rfl (x_pick_f rfl rfl) ?_
        refine l_x rfl (x_as rfl) ?_
        refine l_nil ?_
        refine r_region ?_
        refine l_x rfl (x_fieldAddr rfl Tryz.runUnderlying45 rfl Tryz.sizeOf3 (by decide)) ?_
        refine l_storeq (c' := [_, _, _, _, _, _, _, _, _, _, _]) S29 1 rfl rfl rfl rfl rfl Tryz.sizeOf3 (by first | (simp; done) | exact Nat.le_of_ble_eq_true rfl) rfl ?_
        intro w128 S129 hk130
        refine l_x rfl (x_fieldAddr rfl Tryz.runUnderlying45 rfl Tryz.sizeOf3 (by decide)) ?_
        refine l_storeq (c' := [_, _, _, _, _, _, _, _, _, _, _]) S129 1 rfl rfl rfl rfl rfl Tryz.sizeOf3 (by first | (simp; done) | exact Nat.le_of_ble_eq_true rfl) rfl ?_
        intro w131 S132 hk133
        refine l_x rfl (x_fieldAddr rfl Tryz.runUnderlying45 rfl Tryz.sizeOf3 (by decide)) ?_
        refine l_storeq (c' := [_, _, _, _, _, _, _, _, _, _, _]) S132 1 rfl rfl rfl rfl rfl Tryz.sizeOf3 (by first | (simp; done) | exact Nat.le_of_ble_eq_true rfl) rfl ?_
        intro w134 S135 hk136
        refine l_x rfl (x_fieldAddr rfl Tryz.runUnderlying45 rfl Tryz.sizeOf3 (by decide)) ?_
        refine l_storeq (c' := [_, _, _, _, _, _, _, _, _, _, _]) S135 1 rfl rfl rfl rfl rfl Tryz.sizeOf3 (by first | (simp; done) | exact Nat.le_of_ble_eq_true rfl) rfl ?_
        intro w137 S138 hk139
        refine l_nil ?_
        refine r_inBlock ?_
        refine r_seq ?_
        refine r_region ?_
        refine l_x rfl (x_mv rfl) ?_
        refine l_x rfl (x_mv rfl) ?_
        refine l_pass rfl ?_
        refine l_pass rfl ?_
        refine l_x rfl (x_pick_f rfl rfl) ?_
        refine l_x rfl (x_as rfl) ?_
        refine l_nil ?_
        refine r_ret (rs := [.tmp 2]) [_] Tryz.func66 rfl ⟨rfl, trivial⟩ ?_
        exact ⟨congrArg Value.bool (by rw [formed4 hH hc78]; simp_all), S138.le⟩
      refine l_pass rfl ?_
      refine l_x rfl (x_pick_f rfl rfl) ?_
      refine l_x rfl (x_mv rfl) ?_
      refine l_pass rfl ?_
      refine l_pass rfl ?_
      refine l_pass rfl ?_
      refine l_pass rfl ?_
      refine l_pass rfl ?_
      refine l_x rfl (x_pick_f rfl rfl) ?_
      refine l_x rfl (x_as rfl) ?_
      refine l_nil ?_
      refine r_region ?_
      refine l_x rfl (x_fieldAddr rfl Tryz.runUnderlying45 rfl Tryz.sizeOf3 (by decide)) ?_
      refine l_storeq (c' := [_, _, _, _, _, _, _, _, _, _, _]) S29 1 rfl rfl rfl rfl rfl Tryz.sizeOf3 (by first | (simp; done) | exact Nat.le_of_ble_eq_true rfl) rfl ?_
      intro w140 S141 hk142
      refine l_x rfl (x_fieldAddr rfl Tryz.runUnderlying45 rfl Tryz.sizeOf3 (by decide)) ?_
      refine l_storeq (c' := [_, _, _, _, _, _, _, _, _, _, _]) S141 1 rfl rfl rfl rfl rfl Tryz.sizeOf3 (by first | (simp; done) | exact Nat.le_of_ble_eq_true rfl) rfl ?_
      intro w143 S144 hk145
      refine l_x rfl (x_fieldAddr rfl Tryz.runUnderlying45 rfl Tryz.sizeOf3 (by decide)) ?_
      refine l_storeq (c' := [_, _, _, _, _, _, _, _, _, _, _]) S144 1 rfl rfl rfl rfl rfl Tryz.sizeOf3 (by first | (simp; done) | exact Nat.le_of_ble_eq_true rfl) rfl ?_
      intro w146 S147 hk148
      refine l_x rfl (x_fieldAddr rfl Tryz.runUnderlying45 rfl Tryz.sizeOf3 (by decide)) ?_
      refine l_storeq (c' := [_, _, _, _, _, _, _, _, _, _, _]) S147 1 rfl rfl rfl rfl rfl Tryz.sizeOf3 (by first | (simp; done) | exact Nat.le_of_ble_eq_true rfl) rfl ?_
      intro w149 S150 hk151
      refine l_nil ?_
      refine r_inBlock ?_
      refine r_seq ?_
      refine r_region ?_
      refine l_x rfl (x_mv rfl) ?_
      refine l_x rfl (x_mv rfl) ?_
      refine l_pass rfl ?_
      refine l_pass rfl ?_
      refine l_x rfl (x_pick_f rfl rfl) ?_
      refine l_x rfl (x_as rfl) ?_
      refine l_nil ?_
      refine r_ret (rs := [.tmp 2]) [_] Tryz.func66 rfl ⟨rfl, trivial⟩ ?_
      exact ⟨congrArg Value.bool (by rw [formed4 hH hc78]; simp_all), S150.le⟩
    refine r_seq ?_
    refine r_seq ?_
    refine r_region ?_
    refine l_x rfl (x_eql rfl rfl) ?_
    refine l_x rfl (x_as rfl) ?_
    refine l_nil ?_
    refine r_ifd rfl (fun hc95 => ?_) (fun hc95 => ?_)
    · skip
      have hkd95 : a.1.kind = 6 ∨ a.1.kind = 7 := .inl hc95
      have hq95 := hc95
      refine r_skip ?_
      refine r_ifd rfl (fun hc95 => ?_) (fun hc95 => ?_)
      · skip
        refine r_seq ?_
        refine r_region ?_
        refine l_x rfl (x_mv rfl) ?_
        refine l_x rfl (x_as rfl) ?_
        refine l_nil ?_
        refine r_region ?_
        refine l_x rfl (x_fieldAddr rfl Tryz.runUnderlying45 rfl Tryz.sizeOf3 (by decide)) ?_
        refine l_storeq (c' := [_, _, _, _, _, _, _, _, _, _, _]) S29 1 rfl rfl rfl rfl rfl Tryz.sizeOf3 (by first | (simp; done) | exact Nat.le_of_ble_eq_true rfl) rfl ?_
        intro w152 S153 hk154
        refine l_nil ?_
        refine r_inBlock ?_
        refine r_seq ?_
        refine r_region ?_
        refine l_x rfl (x_mv rfl) ?_
        refine l_x rfl (x_mv rfl) ?_
        refine l_split (d := 110) rfl (fun hg110 => ?_) (fun hg110 => ?_)
        · skip
          refine l_x rfl (x_load rfl (ld_blks (S153.blk 1 rfl) Tryz.isAgg45 Tryz.sizeOf45 rfl rfl)) ?_
          refine l_call [] [] [_] rfl rfl Tryz.call98 rfl (c_zero ({ bareD a.1 with of := 0 }, a.2) _ ⟨hA.1.le S153.le, hA.2.le S153.le, hA.3, hA.4⟩) ?_
          rintro _ w155 ⟨rfl, hl157⟩
          have S156 := S153.step hl157
          refine l_x rfl (x_pick_t rfl rfl) ?_
          refine l_x rfl (x_as rfl) ?_
          refine l_nil ?_
          refine r_ret (rs := [.tmp 2]) [_] Tryz.func66 rfl ⟨rfl, trivial⟩ ?_
          exact ⟨congrArg Value.bool (by rw [formed67 hH hkd95]; simp_all), S156.le⟩
        refine l_pass rfl ?_
        refine l_pass rfl ?_
        refine l_x rfl (x_pick_f rfl rfl) ?_
        refine l_x rfl (x_as rfl) ?_
        refine l_nil ?_
        refine r_ret (rs := [.tmp 2]) [_] Tryz.func66 rfl ⟨rfl, trivial⟩ ?_
        exact ⟨congrArg Value.bool (by rw [formed67 hH hkd95]; simp_all), S153.le⟩
      exact absurd hq95 hc95
    have hn6 := hc95
    refine r_region ?_
    refine l_x rfl (x_eql rfl rfl) ?_
    refine l_x rfl (x_as rfl) ?_
    refine l_nil ?_
    refine r_ifd rfl (fun hc95 => ?_) (fun hc95 => ?_)
    · skip
      have hkd95 : a.1.kind = 6 ∨ a.1.kind = 7 := .inr hc95
      refine r_seq ?_
      refine r_region ?_
      refine l_x rfl (x_mv rfl) ?_
      refine l_x rfl (x_as rfl) ?_
      refine l_nil ?_
      refine r_region ?_
      refine l_x rfl (x_fieldAddr rfl Tryz.runUnderlying45 rfl Tryz.sizeOf3 (by decide)) ?_
      refine l_storeq (c' := [_, _, _, _, _, _, _, _, _, _, _]) S29 1 rfl rfl rfl rfl rfl Tryz.sizeOf3 (by first | (simp; done) | exact Nat.le_of_ble_eq_true rfl) rfl ?_
      intro w158 S159 hk160
      refine l_nil ?_
      refine r_inBlock ?_
      refine r_seq ?_
      refine r_region ?_
      refine l_x rfl (x_mv rfl) ?_
      refine l_x rfl (x_mv rfl) ?_
      refine l_split (d := 110) rfl (fun hg110 => ?_) (fun hg110 => ?_)
      · skip
        refine l_x rfl (x_load rfl (ld_blks (S159.blk 1 rfl) Tryz.isAgg45 Tryz.sizeOf45 rfl rfl)) ?_
        refine l_call [] [] [_] rfl rfl Tryz.call98 rfl (c_zero ({ bareD a.1 with of := 0 }, a.2) _ ⟨hA.1.le S159.le, hA.2.le S159.le, hA.3, hA.4⟩) ?_
        rintro _ w161 ⟨rfl, hl163⟩
        have S162 := S159.step hl163
        refine l_x rfl (x_pick_t rfl rfl) ?_
        refine l_x rfl (x_as rfl) ?_
        refine l_nil ?_
        refine r_ret (rs := [.tmp 2]) [_] Tryz.func66 rfl ⟨rfl, trivial⟩ ?_
        exact ⟨congrArg Value.bool (by rw [formed67 hH hkd95]; simp_all), S162.le⟩
      refine l_pass rfl ?_
      refine l_pass rfl ?_
      refine l_x rfl (x_pick_f rfl rfl) ?_
      refine l_x rfl (x_as rfl) ?_
      refine l_nil ?_
      refine r_ret (rs := [.tmp 2]) [_] Tryz.func66 rfl ⟨rfl, trivial⟩ ?_
      exact ⟨congrArg Value.bool (by rw [formed67 hH hkd95]; simp_all), S159.le⟩
    refine r_seq ?_
    refine r_region ?_
    refine l_x rfl (x_eql rfl rfl) ?_
    refine l_x rfl (x_as rfl) ?_
    refine l_nil ?_
    refine r_ifd rfl (fun hc100 => ?_) (fun hc100 => ?_)
    · skip
      refine r_seq ?_
      refine r_region ?_
      refine l_x rfl (x_mv rfl) ?_
      refine l_x rfl (x_mv rfl) ?_
      refine l_split (d := 103) rfl (fun hg103 => ?_) (fun hg103 => ?_)
      · skip
        refine l_x rfl (x_fieldAddr rfl Tryz.runUnderlying45 rfl Tryz.sizeOf3 (by decide)) ?_
        refine l_x rfl (x_load rfl (ld_blk (S29.blk 0 rfl) Tryz.isAgg3 rfl)) ?_
        refine l_x rfl (x_eql rfl rfl) ?_
        refine l_x rfl (x_pick_t rfl rfl) ?_
        refine l_x rfl (x_as rfl) ?_
        refine l_nil ?_
        refine r_region ?_
        refine l_x rfl (x_fieldAddr rfl Tryz.runUnderlying45 rfl Tryz.sizeOf3 (by decide)) ?_
        refine l_storeq (c' := [_, _, _, _, _, _, _, _, _, _, _]) S29 1 rfl rfl rfl rfl rfl Tryz.sizeOf3 (by first | (simp; done) | exact Nat.le_of_ble_eq_true rfl) rfl ?_
        intro w164 S165 hk166
        refine l_nil ?_
        refine r_inBlock ?_
        refine r_seq ?_
        refine r_region ?_
        refine l_x rfl (x_mv rfl) ?_
        refine l_x rfl (x_mv rfl) ?_
        refine l_splitd (d := 110) rfl (fun hg110 => ?_) (fun hg110 => ?_)
        · skip
          refine l_x rfl (x_load rfl (ld_blks (S165.blk 1 rfl) Tryz.isAgg45 Tryz.sizeOf45 rfl rfl)) ?_
          refine l_call [] [] [_] rfl rfl Tryz.call98 rfl (c_zero ({ bareD a.1 with of := 0 }, a.2) _ ⟨hA.1.le S165.le, hA.2.le S165.le, hA.3, hA.4⟩) ?_
          rintro _ w167 ⟨rfl, hl169⟩
          have S168 := S165.step hl169
          refine l_x rfl (x_pick_t rfl rfl) ?_
          refine l_x rfl (x_as rfl) ?_
          refine l_nil ?_
          refine r_ret (rs := [.tmp 2]) [_] Tryz.func66 rfl ⟨rfl, trivial⟩ ?_
          exact ⟨congrArg Value.bool (by rw [formed8 hH hc100]; simp_all), S168.le⟩
        refine l_pass rfl ?_
        refine l_pass rfl ?_
        refine l_x rfl (x_pick_f rfl rfl) ?_
        refine l_x rfl (x_as rfl) ?_
        refine l_nil ?_
        refine r_ret (rs := [.tmp 2]) [_] Tryz.func66 rfl ⟨rfl, trivial⟩ ?_
        exact ⟨congrArg Value.bool (by rw [formed8 hH hc100]; simp_all), S165.le⟩
      refine l_pass rfl ?_
      refine l_pass rfl ?_
      refine l_pass rfl ?_
      refine l_x rfl (x_pick_f rfl rfl) ?_
      refine l_x rfl (x_as rfl) ?_
      refine l_nil ?_
      refine r_region ?_
      refine l_x rfl (x_fieldAddr rfl Tryz.runUnderlying45 rfl Tryz.sizeOf3 (by decide)) ?_
      refine l_storeq (c' := [_, _, _, _, _, _, _, _, _, _, _]) S29 1 rfl rfl rfl rfl rfl Tryz.sizeOf3 (by first | (simp; done) | exact Nat.le_of_ble_eq_true rfl) rfl ?_
      intro w170 S171 hk172
      refine l_nil ?_
      refine r_inBlock ?_
      refine r_seq ?_
      refine r_region ?_
      refine l_x rfl (x_mv rfl) ?_
      refine l_x rfl (x_mv rfl) ?_
      refine l_pass rfl ?_
      refine l_pass rfl ?_
      refine l_x rfl (x_pick_f rfl rfl) ?_
      refine l_x rfl (x_as rfl) ?_
      refine l_nil ?_
      refine r_ret (rs := [.tmp 2]) [_] Tryz.func66 rfl ⟨rfl, trivial⟩ ?_
      exact ⟨congrArg Value.bool (by rw [formed8 hH hc100]; simp_all), S171.le⟩
    refine r_skip ?_
    refine r_inBlock ?_
    refine r_seq ?_
    refine r_region ?_
    refine l_x rfl (x_mv rfl) ?_
    refine l_x rfl (x_mv rfl) ?_
    refine l_pass rfl ?_
    refine l_pass rfl ?_
    refine l_x rfl (x_pick_f rfl rfl) ?_
    refine l_x rfl (x_as rfl) ?_
    refine l_nil ?_
    refine r_ret (rs := [.tmp 2]) [_] Tryz.func66 rfl ⟨rfl, trivial⟩ ?_
    exact ⟨congrArg Value.bool (formed0 hc50 hn2 hc71 hc78 hc61 hn6 hc95 hc100).symm, S29.le⟩
  refine r_drawE 18 nob Tryz.mixed (by kernel_rfl) ?_
  intro w173 hl174
  have S175 := S12.step hl174
  refine e_exact 0 _ (by kernel_rfl) rfl rfl (by kernel_rfl) rfl (ex_x rfl (fun w1 h1 => x_fieldAddr rfl Tryz.runUnderlying45 rfl Tryz.sizeOf3 (by decide))) ?_
  refine e_exact 1 _ (by kernel_rfl) rfl rfl (by kernel_rfl) rfl (ex_x rfl (fun w1 h1 => x_load rfl (ld_blk ((S175.step h1).blk 0 rfl) Tryz.isAgg3 rfl))) ?_
  refine e_exact 3 _ (by kernel_rfl) rfl rfl (by kernel_rfl) rfl (ex_x rfl (fun w1 h1 => x_fieldAddr rfl Tryz.runUnderlying45 rfl Tryz.sizeOf3 (by decide))) ?_
  refine e_exact 4 _ (by kernel_rfl) rfl rfl (by kernel_rfl) rfl (ex_x rfl (fun w1 h1 => x_load rfl (ld_blk ((S175.step h1).blk 0 rfl) Tryz.isAgg3 rfl))) ?_
  refine e_exact 5 _ (by kernel_rfl) rfl rfl (by kernel_rfl) rfl (ex_x rfl (fun w1 h1 => x_fieldAddr rfl Tryz.runUnderlying45 rfl Tryz.sizeOf3 (by decide))) ?_
  refine e_exact 6 _ (by kernel_rfl) rfl rfl (by kernel_rfl) rfl (ex_x rfl (fun w1 h1 => x_load rfl (ld_blk ((S175.step h1).blk 0 rfl) Tryz.isAgg3 rfl))) ?_
  refine e_next [2, 7] (by kernel_rfl) (by kernel_rfl) ⟨⟨_, _, rfl, rfl, ?_⟩, ⟨_, _, rfl, rfl, ?_⟩, trivial⟩
  · skip
    refine s_callf [] [] [_, _, _] rfl rfl Tryz.call76 rfl ((c_in _ _ _ _).mono ?_)
    rintro _ w176 ⟨rfl, hl178⟩
    have S177 := S175.step hl178
    refine ⟨.of_le hl178, ?_⟩
    refine e_next [7] (by kernel_rfl) (by kernel_rfl) ⟨⟨_, _, rfl, rfl, ?_⟩, trivial⟩
    refine s_buildSlice EI [a.1.frm, a.1.to] S177 rfl Tryz.runUnderlying23 Tryz.sizeOf3 Tryz.zeroValue3 rfl ⟨rfl, rfl, rfl, rfl, trivial⟩ (by decide) ?_
    intro v182 w179 S180 hl181
    refine ⟨.of_le hl181, ?_⟩
    refine e_next [8] (by kernel_rfl) (by kernel_rfl) ⟨⟨_, _, rfl, rfl, ?_⟩, trivial⟩
    refine s_callf [] [] [_] rfl rfl Tryz.call42 rfl ((c_owned _ _ (by first | omega | exact Nat.le_of_ble_eq_true rfl) _ (vec_rd (S180.at 1 rfl))).mono ?_)
    rintro _ w183 ⟨rfl, hl185⟩
    have S184 := S180.step hl185
    refine ⟨.of_le hl185, ?_⟩
    refine e_exact 9 _ (by kernel_rfl) rfl rfl (by kernel_rfl) rfl (ex_x rfl (fun w1 h1 => x_mv rfl)) ?_
    refine e_split (d := 33) rfl (fun hg33 => ?_) (fun hg33 => ?_)
    · skip
      refine e_exact 10 _ (by kernel_rfl) rfl rfl (by kernel_rfl) rfl (ex_x rfl (fun w1 h1 => x_fieldAddr rfl Tryz.runUnderlying45 rfl Tryz.sizeOf3 (by decide))) ?_
      refine e_exact 11 _ (by kernel_rfl) rfl rfl (by kernel_rfl) rfl (ex_x rfl (fun w1 h1 => x_load rfl (ld_blk ((S184.step h1).blk 0 rfl) Tryz.isAgg3 rfl))) ?_
      refine e_exact 12 _ (by kernel_rfl) rfl rfl (by kernel_rfl) rfl (ex_x rfl (fun w1 h1 => x_fieldAddr rfl Tryz.runUnderlying45 rfl Tryz.sizeOf3 (by decide))) ?_
      refine e_exact 13 _ (by kernel_rfl) rfl rfl (by kernel_rfl) rfl (ex_x rfl (fun w1 h1 => x_load rfl (ld_blk ((S184.step h1).blk 0 rfl) Tryz.isAgg3 rfl))) ?_
      refine e_exact 14 _ (by kernel_rfl) rfl rfl (by kernel_rfl) rfl (ex_x rfl (fun w1 h1 => x_neq rfl rfl)) ?_
      refine e_exact 15 _ (by kernel_rfl) rfl rfl (by kernel_rfl) rfl (ex_x rfl (fun w1 h1 => x_pick_t rfl rfl)) ?_
      refine e_exact 16 _ (by kernel_rfl) rfl rfl (by kernel_rfl) rfl (ex_x rfl (fun w1 h1 => x_as rfl)) ?_
      refine e_exact 17 _ (by kernel_rfl) rfl rfl (by kernel_rfl) rfl (ex_x rfl (fun w1 h1 => x_as rfl)) ?_
      refine e_done (by kernel_rfl) ?_
      refine l_nil ?_
      exact HK17 _ _ ⟨rfl, rfl, (congrArg Value.bool (by simp_all [twoB])), trivial⟩ trivial (S184.take 1)
    refine e_exact 10 _ (by kernel_rfl) rfl rfl (by kernel_rfl) rfl (ex_pass rfl) ?_
    refine e_exact 11 _ (by kernel_rfl) rfl rfl (by kernel_rfl) rfl (ex_pass rfl) ?_
    refine e_exact 12 _ (by kernel_rfl) rfl rfl (by kernel_rfl) rfl (ex_pass rfl) ?_
    refine e_exact 13 _ (by kernel_rfl) rfl rfl (by kernel_rfl) rfl (ex_pass rfl) ?_
    refine e_exact 14 _ (by kernel_rfl) rfl rfl (by kernel_rfl) rfl (ex_pass rfl) ?_
    refine e_exact 15 _ (by kernel_rfl) rfl rfl (by kernel_rfl) rfl (ex_x rfl (fun w1 h1 => x_pick_f rfl rfl)) ?_
    refine e_exact 16 _ (by kernel_rfl) rfl rfl (by kernel_rfl) rfl (ex_x rfl (fun w1 h1 => x_as rfl)) ?_
    refine e_exact 17 _ (by kernel_rfl) rfl rfl (by kernel_rfl) rfl (ex_x rfl (fun w1 h1 => x_as rfl)) ?_
    refine e_done (by kernel_rfl) ?_
    refine l_nil ?_
    exact HK17 _ _ ⟨rfl, rfl, (congrArg Value.bool (by simp_all [twoB])), trivial⟩ trivial (S184.take 1)
  refine s_buildSlice EI [a.1.frm, a.1.to] S175 rfl Tryz.runUnderlying23 Tryz.sizeOf3 Tryz.zeroValue3 rfl ⟨rfl, rfl, rfl, rfl, trivial⟩ (by decide) ?_
  intro v189 w186 S187 hl188
  refine ⟨.of_le hl188, ?_⟩
  refine e_next [2] (by kernel_rfl) (by kernel_rfl) ⟨⟨_, _, rfl, rfl, ?_⟩, trivial⟩
  refine s_callf [] [] [_, _, _] rfl rfl Tryz.call76 rfl ((c_in _ _ _ _).mono ?_)
  rintro _ w190 ⟨rfl, hl192⟩
  have S191 := S187.step hl192
  refine ⟨.of_le hl192, ?_⟩
  refine e_next [8] (by kernel_rfl) (by kernel_rfl) ⟨⟨_, _, rfl, rfl, ?_⟩, trivial⟩
  refine s_callf [] [] [_] rfl rfl Tryz.call42 rfl ((c_owned _ _ (by first | omega | exact Nat.le_of_ble_eq_true rfl) _ (vec_rd (S191.at 1 rfl))).mono ?_)
  rintro _ w193 ⟨rfl, hl195⟩
  have S194 := S191.step hl195
  refine ⟨.of_le hl195, ?_⟩
  refine e_exact 9 _ (by kernel_rfl) rfl rfl (by kernel_rfl) rfl (ex_x rfl (fun w1 h1 => x_mv rfl)) ?_
  refine e_split (d := 33) rfl (fun hg33 => ?_) (fun hg33 => ?_)
  · skip
    refine e_exact 10 _ (by kernel_rfl) rfl rfl (by kernel_rfl) rfl (ex_x rfl (fun w1 h1 => x_fieldAddr rfl Tryz.runUnderlying45 rfl Tryz.sizeOf3 (by decide))) ?_
    refine e_exact 11 _ (by kernel_rfl) rfl rfl (by kernel_rfl) rfl (ex_x rfl (fun w1 h1 => x_load rfl (ld_blk ((S194.step h1).blk 0 rfl) Tryz.isAgg3 rfl))) ?_
    refine e_exact 12 _ (by kernel_rfl) rfl rfl (by kernel_rfl) rfl (ex_x rfl (fun w1 h1 => x_fieldAddr rfl Tryz.runUnderlying45 rfl Tryz.sizeOf3 (by decide))) ?_
    refine e_exact 13 _ (by kernel_rfl) rfl rfl (by kernel_rfl) rfl (ex_x rfl (fun w1 h1 => x_load rfl (ld_blk ((S194.step h1).blk 0 rfl) Tryz.isAgg3 rfl))) ?_
    refine e_exact 14 _ (by kernel_rfl) rfl rfl (by kernel_rfl) rfl (ex_x rfl (fun w1 h1 => x_neq rfl rfl)) ?_
    refine e_exact 15 _ (by kernel_rfl) rfl rfl (by kernel_rfl) rfl (ex_x rfl (fun w1 h1 => x_pick_t rfl rfl)) ?_
    refine e_exact 16 _ (by kernel_rfl) rfl rfl (by kernel_rfl) rfl (ex_x rfl (fun w1 h1 => x_as rfl)) ?_
    refine e_exact 17 _ (by kernel_rfl) rfl rfl (by kernel_rfl) rfl (ex_x rfl (fun w1 h1 => x_as rfl)) ?_
    refine e_done (by kernel_rfl) ?_
    refine l_nil ?_
    exact HK17 _ _ ⟨rfl, rfl, (congrArg Value.bool (by simp_all [twoB])), trivial⟩ trivial (S194.take 1)
  refine e_exact 10 _ (by kernel_rfl) rfl rfl (by kernel_rfl) rfl (ex_pass rfl) ?_
  refine e_exact 11 _ (by kernel_rfl) rfl rfl (by kernel_rfl) rfl (ex_pass rfl) ?_
  refine e_exact 12 _ (by kernel_rfl) rfl rfl (by kernel_rfl) rfl (ex_pass rfl) ?_
  refine e_exact 13 _ (by kernel_rfl) rfl rfl (by kernel_rfl) rfl (ex_pass rfl) ?_
  refine e_exact 14 _ (by kernel_rfl) rfl rfl (by kernel_rfl) rfl (ex_pass rfl) ?_
  refine e_exact 15 _ (by kernel_rfl) rfl rfl (by kernel_rfl) rfl (ex_x rfl (fun w1 h1 => x_pick_f rfl rfl)) ?_
  refine e_exact 16 _ (by kernel_rfl) rfl rfl (by kernel_rfl) rfl (ex_x rfl (fun w1 h1 => x_as rfl)) ?_
  refine e_exact 17 _ (by kernel_rfl) rfl rfl (by kernel_rfl) rfl (ex_x rfl (fun w1 h1 => x_as rfl)) ?_
  refine e_done (by kernel_rfl) ?_
  refine l_nil ?_
  exact HK17 _ _ ⟨rfl, rfl, (congrArg Value.bool (by simp_all [twoB])), trivial⟩ trivial (S194.take 1)


/-- couchant/deed.follows$1. -/
theorem c_follows1 (z a : Rw) (b : Nat) (w : World) (hZ : SubR 3 w z) (hb : Blk w b (encD a) 45) :
    Cl Tryz.prog 68 #[.agg (encD z).toArray, .pointer (some ⟨b, 0, none⟩)] w fun v w' => v = .bool (decide (z.1.kind = 8 ∧ z.1.of = a.1.of)) ∧ Le w w' := by
  refine fn_of_run (args := [_, _]) 14 Tryz.func68 rfl rfl rfl fun cs => ?_
  have S := Own.start (X := nob) w
  refine r_seq ?_
  refine r_region ?_
  refine l_box S rfl rfl ?_
  intro b4 w1 S2 hl3
  refine l_x rfl (x_as rfl) ?_
  refine l_nil ?_
  refine r_seq ?_
  refine r_region ?_
  refine l_x rfl (x_fieldAddr rfl Tryz.runUnderlying45 rfl Tryz.sizeOf5 (by decide)) ?_
  refine l_x rfl (x_load rfl (ld_blk (S2.blk 0 rfl) Tryz.isAgg5 rfl)) ?_
  refine l_x rfl (x_eql rfl rfl) ?_
  refine l_x rfl (x_mv rfl) ?_
  refine l_splitd (d := 7) rfl (fun hg7 => ?_) (fun hg7 => ?_)
  · skip
    refine l_x rfl (x_fieldAddr rfl Tryz.runUnderlying45 rfl Tryz.sizeOf3 (by decide)) ?_
    refine l_x rfl (x_load rfl (ld_blk (S2.blk 0 rfl) Tryz.isAgg3 rfl)) ?_
    refine l_x rfl (x_fieldAddr rfl Tryz.runUnderlying45 rfl Tryz.sizeOf3 (by decide)) ?_
    refine l_x rfl (x_load rfl (ld_blk (hb.keep S2.le id) Tryz.isAgg3 rfl)) ?_
    refine l_x rfl (x_eql rfl rfl) ?_
    refine l_x rfl (x_pick_t rfl rfl) ?_
    refine l_x rfl (x_as rfl) ?_
    refine l_nil ?_
    refine r_ret (rs := [.tmp 3]) [_] Tryz.func68 rfl ⟨rfl, trivial⟩ ?_
    exact ⟨congrArg Value.bool (by first | (apply decE; omega) | (apply decF; omega)), S2.le⟩
  refine l_pass rfl ?_
  refine l_pass rfl ?_
  refine l_pass rfl ?_
  refine l_pass rfl ?_
  refine l_pass rfl ?_
  refine l_x rfl (x_pick_f rfl rfl) ?_
  refine l_x rfl (x_as rfl) ?_
  refine l_nil ?_
  refine r_ret (rs := [.tmp 3]) [_] Tryz.func68 rfl ⟨rfl, trivial⟩ ?_
  exact ⟨congrArg Value.bool (by first | (apply decE; omega) | (apply decF; omega)), S2.le⟩

set_option maxHeartbeats 4000000 in
/-- couchant/deed.follows. -/
theorem c_follows (rs : List Rw) (vl : Value) (a : Rw) (hf : ∀ y ∈ dl rs, formed y = true) (w : World) (hD : DsR 45 3 w vl rs) (hA : SubR 3 w a) :
    Cl Tryz.prog 35 #[vl, .agg (encD a).toArray] w fun v w' => v = .int .i64 (follows (dl rs) a.1) ∧ Le w w' := by
  have hml := hD.lm
  refine fn_of_run (args := [_, _]) 98 Tryz.func35 rfl rfl rfl fun cs => ?_
  have S := Own.start (X := nob) w
  refine r_seq ?_
  refine r_region ?_
  refine l_box S rfl rfl ?_
  intro b4 w1 S2 hl3
  refine l_x rfl (x_as rfl) ?_
  refine l_nil ?_
  refine r_seq ?_
  refine r_block ?_
  refine r_seq ?_
  refine r_region ?_
  refine l_x rfl (x_mv rfl) ?_
  refine l_x rfl (x_len (hD.rd.le S2.le) rfl Tryz.runUnderlying22) ?_
  refine l_x rfl (x_geq rfl rfl) ?_
  refine l_x rfl (x_as rfl) ?_
  refine l_nil ?_
  refine r_ifd rfl (fun hc10 => ?_) (fun hc10 => ?_)
  · skip
    refine r_seq ?_
    refine r_region ?_
    refine l_x rfl (x_as rfl) ?_
    refine l_nil ?_
    refine r_ret (rs := [.tmp 4]) [_] Tryz.func35 rfl ⟨rfl, trivial⟩ ?_
    exact ⟨congrArg (Value.int .i64) (fol_full (by rw [dl_len]; omega)).symm, S2.le⟩
  refine r_seq ?_
  refine r_region ?_
  refine l_x rfl (x_load rfl (ld_blks (S2.blk 0 rfl) Tryz.isAgg45 Tryz.sizeOf45 rfl rfl)) ?_
  refine l_call [] [] [_] rfl rfl Tryz.call66 rfl (c_formed a _ (hA.le S2.le)) ?_
  rintro _ w5 ⟨rfl, hl7⟩
  have S6 := S2.step hl7
  refine l_x rfl (x_not rfl) ?_
  refine l_x rfl (x_mv rfl) ?_
  refine l_split (d := 18) rfl (fun hg18 => ?_) (fun hg18 => ?_)
  · skip
    refine l_pass rfl ?_
    refine l_pass rfl ?_
    refine l_pass rfl ?_
    refine l_pass rfl ?_
    refine l_pass rfl ?_
    refine l_pass rfl ?_
    refine l_x rfl (x_pick_t rfl rfl) ?_
    refine l_x rfl (x_as rfl) ?_
    refine l_nil ?_
    refine r_true rfl ?_
    refine r_seq ?_
    refine r_region ?_
    refine l_x rfl (x_as rfl) ?_
    refine l_nil ?_
    refine r_ret (rs := [.tmp 4]) [_] Tryz.func35 rfl ⟨rfl, trivial⟩ ?_
    exact ⟨congrArg (Value.int .i64) (fol_form (by rw [dl_len]; omega) (by first | exact .inl (by simpa using hg18) | exact .inr (by rw [dl_len]; omega))).symm, S6.le⟩
  refine l_x rfl (x_fieldAddr rfl Tryz.runUnderlying45 rfl Tryz.sizeOf3 (by decide)) ?_
  refine l_x rfl (x_load rfl (ld_blk (S6.blk 0 rfl) Tryz.isAgg3 rfl)) ?_
  refine l_x rfl (x_mv rfl) ?_
  refine l_x rfl (x_len (hD.rd.le S6.le) rfl Tryz.runUnderlying22) ?_
  refine l_x rfl (x_add rfl rfl (by omega)) ?_
  refine l_x rfl (x_neq rfl rfl) ?_
  refine l_x rfl (x_pick_f rfl rfl) ?_
  refine l_x rfl (x_as rfl) ?_
  refine l_nil ?_
  refine r_ifd rfl (fun hc14 => ?_) (fun hc14 => ?_)
  · skip
    refine r_seq ?_
    refine r_region ?_
    refine l_x rfl (x_as rfl) ?_
    refine l_nil ?_
    refine r_ret (rs := [.tmp 4]) [_] Tryz.func35 rfl ⟨rfl, trivial⟩ ?_
    exact ⟨congrArg (Value.int .i64) (fol_form (by rw [dl_len]; omega) (by first | exact .inl (by simpa using hg18) | exact .inr (by rw [dl_len]; omega))).symm, S6.le⟩
  have hfo : formed a.1 = true := by simpa using hg18
  have hid : a.1.id = (dl rs).length + 1 := by rw [dl_len]; omega
  have hlt : (dl rs).length < 400 := by rw [dl_len]; omega
  refine r_seq ?_
  refine r_drawR 16 Tryz.mixed (by kernel_rfl) ?_
  refine w_x rfl (fun w1 h1 => x_mv rfl) ?_
  refine w_x rfl (fun w1 h1 => x_len (hD.rd.le (S6.step h1).le) rfl Tryz.runUnderlying22) ?_
  refine w_x rfl (fun w1 h1 => x_gtr rfl rfl) ?_
  refine w_x rfl (fun w1 h1 => x_mv rfl) ?_
  refine w_splitd (d := 30) rfl (fun hg30 => ?_) (fun hg30 => ?_)
  · skip
    obtain ⟨y, hy⟩ : ∃ y, rs[rs.length - 1]? = some y := ⟨_, List.getElem?_eq_getElem (by omega)⟩
    have hym := List.mem_of_getElem? hy
    refine w_x rfl (fun w1 h1 => x_fieldAddr rfl Tryz.runUnderlying45 rfl Tryz.sizeOf3 (by decide)) ?_
    refine w_x rfl (fun w1 h1 => x_load rfl (ld_blk ((S6.step h1).blk 0 rfl) Tryz.isAgg3 rfl)) ?_
    refine w_x rfl (fun w1 h1 => x_mv rfl) ?_
    refine w_x rfl (fun w1 h1 => x_mv rfl) ?_
    refine w_x rfl (fun w1 h1 => x_len (hD.rd.le (S6.step h1).le) rfl Tryz.runUnderlying22) ?_
    refine w_x rfl (fun w1 h1 => x_sub rfl rfl (by omega)) ?_
    refine w_index ED rfl (hD.rd.le S6.le) rfl rfl Tryz.runUnderlying22 Tryz.sizeOf45 (by omega) (by rw [show ((rs.length : Int) - 1).toNat = rs.length - 1 by omega]; exact hy) ?_
    intro b8 o9 hat10 row11
    refine w_x rfl (fun w1 h1 => x_fieldAddr rfl Tryz.runUnderlying45 rfl Tryz.sizeOf3 (by decide)) ?_
    refine w_x rfl (fun w1 h1 => x_load rfl (ld_cell Tryz.isAgg3 ((row11.le h1) 2 _ rfl))) ?_
    refine w_x rfl (fun w1 h1 => x_lss rfl rfl) ?_
    refine w_x rfl (fun w1 h1 => x_pick_t rfl rfl) ?_
    refine w_x rfl (fun w1 h1 => x_as rfl) ?_
    refine w_nil ?_
    intro w12 hl13
    have S14 := S6.step hl13
    refine l_nil ?_
    refine r_ifd rfl (fun hc26 => ?_) (fun hc26 => ?_)
    · skip
      refine r_seq ?_
      refine r_region ?_
      refine l_x rfl (x_as rfl) ?_
      refine l_nil ?_
      refine r_ret (rs := [.tmp 4]) [_] Tryz.func35 rfl ⟨rfl, trivial⟩ ?_
      exact ⟨congrArg (Value.int .i64) (fol_time hlt hfo hid (dl_get hy) (by rw [dl_len]) (by omega)).symm, S14.le⟩
    have htm := fol_last hy hc26
    refine r_seq ?_
    refine r_region ?_
    refine l_x rfl (x_fieldAddr rfl Tryz.runUnderlying45 rfl Tryz.sizeOf3 (by decide)) ?_
    refine l_x rfl (x_load rfl (ld_blk (S14.blk 0 rfl) Tryz.isAgg3 rfl)) ?_
    refine l_x rfl (x_gtr rfl rfl) ?_
    refine l_x rfl (x_as rfl) ?_
    refine l_nil ?_
    refine r_ifd rfl (fun hc42 => ?_) (fun hc42 => ?_)
    · skip
      have hofb := formed_of hfo (by omega)
      have hany : (dl rs).any (fun z => decide (z.kind = 8 ∧ z.of = a.1.of)) = rs.any (fun z => decide (z.1.kind = 8 ∧ z.1.of = a.1.of)) := dl_any
      obtain ⟨y, hyo⟩ : ∃ y, rs[(a.1.of - 1).toNat]? = some y := ⟨_, List.getElem?_eq_getElem (by rw [dl_len] at hid; omega)⟩
      have hym := List.mem_of_getElem? hyo
      refine r_seq ?_
      refine r_region ?_
      refine l_x rfl (x_mv rfl) ?_
      refine l_x rfl (x_fieldAddr rfl Tryz.runUnderlying45 rfl Tryz.sizeOf3 (by decide)) ?_
      refine l_x rfl (x_load rfl (ld_blk (S14.blk 0 rfl) Tryz.isAgg3 rfl)) ?_
      refine l_x rfl (x_sub rfl rfl (by omega)) ?_
      refine l_index ED rfl (hD.rd.le S14.le) rfl rfl Tryz.runUnderlying22 Tryz.sizeOf45 (by omega) hyo ?_
      intro b15 o16 hat17 row18
      refine l_x rfl (x_load rfl (ld_row Tryz.isAgg45 Tryz.sizeOf45 rfl row18)) ?_
      refine l_alloc S14 rfl Tryz.zeroValue45 rfl ?_
      intro b22 w19 S20 hl21
      refine l_stores (vs := [_, _, _, _, _, _, _, _, _, _, _]) S20 1 rfl rfl rfl rfl (ones_cons rfl (ones_cons rfl (ones_cons rfl (ones_cons rfl (ones_cons rfl (ones_cons rfl (ones_cons rfl (ones_cons rfl (ones_cons rfl (ones_cons (Rd.one ((hD.sub _ hym).1.le S20.le)) (ones_cons (Rd.one ((hD.sub _ hym).2.le S20.le)) ones_nil))))))))))) Tryz.sizeOf45 (by first | exact Nat.le_refl _ | simp) (splice_all rfl) ?_
      intro w23 S24 hk25
      refine l_nil ?_
      refine r_seq ?_
      refine r_region ?_
      refine l_x rfl (x_mv rfl) ?_
      refine l_x rfl (x_func rfl rfl) ?_
      refine l_call [] [] [_, _] rfl rfl Tryz.call67 rfl (c_ContainsFuncDeed _ rs (fun z => decide (z.1.kind = 8 ∧ z.1.of = a.1.of)) 68 [_] (by omega) _ (hD.le S24.le) Tryz.call68 (fun x hx w1 h1 => c_follows1 x a _ w1 ((hD.sub x hx).le (S24.le.trans h1)) ((S24.blk 0 rfl).keep h1 id))) ?_
      rintro _ w26 ⟨rfl, hl28⟩
      have S27 := S24.step hl28
      refine l_x rfl (x_as rfl) ?_
      refine l_nil ?_
      refine r_seq ?_
      refine r_region ?_
      refine l_x rfl (x_fieldAddr rfl Tryz.runUnderlying45 rfl Tryz.sizeOf5 (by decide)) ?_
      refine l_x rfl (x_load rfl (ld_blk (S27.blk 0 rfl) Tryz.isAgg5 rfl)) ?_
      refine l_x rfl (x_eql rfl rfl) ?_
      refine l_x rfl (x_mv rfl) ?_
      refine l_splitd (d := 58) rfl (fun hg58 => ?_) (fun hg58 => ?_)
      · skip
        refine l_x rfl (x_fieldAddr rfl Tryz.runUnderlying45 rfl Tryz.sizeOf5 (by decide)) ?_
        refine l_x rfl (x_load rfl (ld_blk (S27.blk 1 rfl) Tryz.isAgg5 rfl)) ?_
        refine l_x rfl (x_eql rfl rfl) ?_
        refine l_x rfl (x_mv rfl) ?_
        refine l_splitd (d := 62) rfl (fun hg62 => ?_) (fun hg62 => ?_)
        · skip
          refine l_pass rfl ?_
          refine l_x rfl (x_pick_t rfl rfl) ?_
          refine l_x rfl (x_pick_t rfl rfl) ?_
          refine l_x rfl (x_mv rfl) ?_
          refine l_pass rfl ?_
          refine l_pass rfl ?_
          refine l_pass rfl ?_
          refine l_pass rfl ?_
          refine l_pass rfl ?_
          refine l_pass rfl ?_
          refine l_pass rfl ?_
          refine l_pass rfl ?_
          refine l_x rfl (x_pick_t rfl rfl) ?_
          refine l_nil ?_
          refine r_true rfl ?_
          refine r_seq ?_
          refine r_region ?_
          refine l_x rfl (x_as rfl) ?_
          refine l_nil ?_
          refine r_ret (rs := [.tmp 4]) [_] Tryz.func35 rfl ⟨rfl, trivial⟩ ?_
          exact ⟨congrArg (Value.int .i64) (by rw [fol_of hlt hfo hid htm (by omega), named_at (dl_get hyo), hany]; generalize (rs.any fun z => decide (z.1.kind = 8 ∧ z.1.of = a.1.of)) = q at *; simp_all), S27.le⟩
        refine l_x rfl (x_mv rfl) ?_
        refine l_x rfl (x_pick_f rfl rfl) ?_
        refine l_x rfl (x_pick_t rfl rfl) ?_
        refine l_x rfl (x_mv rfl) ?_
        refine l_split (d := 66) rfl (fun hg66 => ?_) (fun hg66 => ?_)
        · skip
          refine l_pass rfl ?_
          refine l_pass rfl ?_
          refine l_pass rfl ?_
          refine l_pass rfl ?_
          refine l_pass rfl ?_
          refine l_pass rfl ?_
          refine l_pass rfl ?_
          refine l_pass rfl ?_
          refine l_x rfl (x_pick_t rfl rfl) ?_
          refine l_nil ?_
          refine r_true rfl ?_
          refine r_seq ?_
          refine r_region ?_
          refine l_x rfl (x_as rfl) ?_
          refine l_nil ?_
          refine r_ret (rs := [.tmp 4]) [_] Tryz.func35 rfl ⟨rfl, trivial⟩ ?_
          exact ⟨congrArg (Value.int .i64) (by rw [fol_of hlt hfo hid htm (by omega), named_at (dl_get hyo), hany]; generalize (rs.any fun z => decide (z.1.kind = 8 ∧ z.1.of = a.1.of)) = q at *; simp_all), S27.le⟩
        refine l_x rfl (x_fieldAddr rfl Tryz.runUnderlying45 rfl Tryz.sizeOf5 (by decide)) ?_
        refine l_x rfl (x_load rfl (ld_blk (S27.blk 0 rfl) Tryz.isAgg5 rfl)) ?_
        refine l_x rfl (x_neq rfl rfl) ?_
        refine l_x rfl (x_mv rfl) ?_
        refine l_splitd (d := 70) rfl (fun hg70 => ?_) (fun hg70 => ?_)
        · skip
          refine l_x rfl (x_fieldAddr rfl Tryz.runUnderlying45 rfl Tryz.sizeOf5 (by decide)) ?_
          refine l_x rfl (x_load rfl (ld_blk (S27.blk 1 rfl) Tryz.isAgg5 rfl)) ?_
          refine l_x rfl (x_neq rfl rfl) ?_
          refine l_x rfl (x_pick_t rfl rfl) ?_
          refine l_x rfl (x_pick_f rfl rfl) ?_
          refine l_nil ?_
          refine r_ifd rfl (fun hc75 => ?_) (fun hc75 => ?_)
          · skip
            refine r_seq ?_
            refine r_region ?_
            refine l_x rfl (x_as rfl) ?_
            refine l_nil ?_
            refine r_ret (rs := [.tmp 4]) [_] Tryz.func35 rfl ⟨rfl, trivial⟩ ?_
            exact ⟨congrArg (Value.int .i64) (by rw [fol_of hlt hfo hid htm (by omega), named_at (dl_get hyo), hany]; generalize (rs.any fun z => decide (z.1.kind = 8 ∧ z.1.of = a.1.of)) = q at *; simp_all), S27.le⟩
          refine r_skip ?_
          refine r_inBlock ?_
          refine r_seq ?_
          refine r_region ?_
          refine l_x rfl (x_as rfl) ?_
          refine l_nil ?_
          refine r_ret (rs := [.tmp 4]) [_] Tryz.func35 rfl ⟨rfl, trivial⟩ ?_
          exact ⟨congrArg (Value.int .i64) (by rw [fol_of hlt hfo hid htm (by omega), named_at (dl_get hyo), hany]; generalize (rs.any fun z => decide (z.1.kind = 8 ∧ z.1.of = a.1.of)) = q at *; simp_all), S27.le⟩
        refine l_pass rfl ?_
        refine l_pass rfl ?_
        refine l_pass rfl ?_
        refine l_x rfl (x_pick_f rfl rfl) ?_
        refine l_x rfl (x_pick_f rfl rfl) ?_
        refine l_nil ?_
        refine r_false rfl ?_
        refine r_skip ?_
        refine r_inBlock ?_
        refine r_seq ?_
        refine r_region ?_
        refine l_x rfl (x_as rfl) ?_
        refine l_nil ?_
        refine r_ret (rs := [.tmp 4]) [_] Tryz.func35 rfl ⟨rfl, trivial⟩ ?_
        exact ⟨congrArg (Value.int .i64) (by rw [fol_of hlt hfo hid htm (by omega), named_at (dl_get hyo), hany]; generalize (rs.any fun z => decide (z.1.kind = 8 ∧ z.1.of = a.1.of)) = q at *; simp_all), S27.le⟩
      refine l_pass rfl ?_
      refine l_pass rfl ?_
      refine l_pass rfl ?_
      refine l_pass rfl ?_
      refine l_pass rfl ?_
      refine l_pass rfl ?_
      refine l_x rfl (x_pick_f rfl rfl) ?_
      refine l_x rfl (x_mv rfl) ?_
      refine l_x rfl (x_fieldAddr rfl Tryz.runUnderlying45 rfl Tryz.sizeOf5 (by decide)) ?_
      refine l_x rfl (x_load rfl (ld_blk (S27.blk 0 rfl) Tryz.isAgg5 rfl)) ?_
      refine l_x rfl (x_neq rfl rfl) ?_
      refine l_x rfl (x_mv rfl) ?_
      refine l_splitd (d := 70) rfl (fun hg70 => ?_) (fun hg70 => ?_)
      · skip
        refine l_x rfl (x_fieldAddr rfl Tryz.runUnderlying45 rfl Tryz.sizeOf5 (by decide)) ?_
        refine l_x rfl (x_load rfl (ld_blk (S27.blk 1 rfl) Tryz.isAgg5 rfl)) ?_
        refine l_x rfl (x_neq rfl rfl) ?_
        refine l_x rfl (x_pick_t rfl rfl) ?_
        refine l_x rfl (x_pick_f rfl rfl) ?_
        refine l_nil ?_
        refine r_ifd rfl (fun hc75 => ?_) (fun hc75 => ?_)
        · skip
          refine r_seq ?_
          refine r_region ?_
          refine l_x rfl (x_as rfl) ?_
          refine l_nil ?_
          refine r_ret (rs := [.tmp 4]) [_] Tryz.func35 rfl ⟨rfl, trivial⟩ ?_
          exact ⟨congrArg (Value.int .i64) (by rw [fol_of hlt hfo hid htm (by omega), named_at (dl_get hyo), hany]; generalize (rs.any fun z => decide (z.1.kind = 8 ∧ z.1.of = a.1.of)) = q at *; simp_all), S27.le⟩
        refine r_skip ?_
        refine r_inBlock ?_
        refine r_seq ?_
        refine r_region ?_
        refine l_x rfl (x_as rfl) ?_
        refine l_nil ?_
        refine r_ret (rs := [.tmp 4]) [_] Tryz.func35 rfl ⟨rfl, trivial⟩ ?_
        exact ⟨congrArg (Value.int .i64) (by rw [fol_of hlt hfo hid htm (by omega), named_at (dl_get hyo), hany]; generalize (rs.any fun z => decide (z.1.kind = 8 ∧ z.1.of = a.1.of)) = q at *; simp_all), S27.le⟩
      refine l_pass rfl ?_
      refine l_pass rfl ?_
      refine l_pass rfl ?_
      refine l_x rfl (x_pick_f rfl rfl) ?_
      refine l_x rfl (x_pick_f rfl rfl) ?_
      refine l_nil ?_
      refine r_false rfl ?_
      refine r_skip ?_
      refine r_inBlock ?_
      refine r_seq ?_
      refine r_region ?_
      refine l_x rfl (x_as rfl) ?_
      refine l_nil ?_
      refine r_ret (rs := [.tmp 4]) [_] Tryz.func35 rfl ⟨rfl, trivial⟩ ?_
      exact ⟨congrArg (Value.int .i64) (by rw [fol_of hlt hfo hid htm (by omega), named_at (dl_get hyo), hany]; generalize (rs.any fun z => decide (z.1.kind = 8 ∧ z.1.of = a.1.of)) = q at *; simp_all), S27.le⟩
    refine r_seq ?_
    refine r_region ?_
    refine l_x rfl (x_fieldAddr rfl Tryz.runUnderlying45 rfl Tryz.sizeOf5 (by decide)) ?_
    refine l_x rfl (x_load rfl (ld_blk (S14.blk 0 rfl) Tryz.isAgg5 rfl)) ?_
    refine l_x rfl (x_eql rfl rfl) ?_
    refine l_x rfl (x_as rfl) ?_
    refine l_nil ?_
    refine r_ifd rfl (fun hc76 => ?_) (fun hc76 => ?_)
    · skip
      have hpb := formed_parts hfo hc76
      refine r_seq ?_
      refine r_region ?_
      refine l_x rfl (x_fieldAddr rfl Tryz.runUnderlying45 rfl Tryz.sizeOf3 (by decide)) ?_
      refine l_x rfl (x_load rfl (ld_blk (S14.blk 0 rfl) Tryz.isAgg3 rfl)) ?_
      refine l_x rfl (x_as rfl) ?_
      refine l_nil ?_
      refine r_seq ?_
      refine r_seq ?_
      refine r_region ?_
      refine l_x rfl (x_mv rfl) ?_
      refine l_x rfl (x_len (hD.rd.le S14.le) rfl Tryz.runUnderlying22) ?_
      refine l_x rfl (x_mv rfl) ?_
      refine l_nil ?_
      refine r_block ?_
      refine r_loop (G := Nat) (fun i => rs.length - i) (fun i => [(3, .pointer (some ⟨b4, 0, none⟩)), (7, .int .i64 (a.1.parts + enters ((dl rs).take i))), (82, vl), (83, .int .i64 rs.length), (84, .int .i64 i)]) (fun i w' => (i ≤ rs.length) ∧ Own nob w w' [blk b4 (encD a) 45]) 0 ⟨rfl, (congrArg (Value.int .i64) (by rw [List.take_zero]; simp [enters, sumI])), rfl, rfl, rfl, trivial⟩ ⟨Nat.zero_le _, (S14.take 1)⟩ ?_
      rintro i ρ w1 ⟨hi, S1⟩ IH
      have hbd := enters_bd_take hf i hlt
      refine r_seq ?_
      refine r_region ?_
      refine l_x rfl (x_lss rfl rfl) ?_
      refine l_nil ?_
      refine r_seq ?_
      refine r_ifd rfl (fun hc85 => ?_) (fun hc85 => ?_)
      · skip
        obtain ⟨y, hy⟩ : ∃ y, rs[i]? = some y := ⟨_, List.getElem?_eq_getElem (by omega)⟩
        have hym := List.mem_of_getElem? hy
        have hyf := hf y.1 (List.mem_map.2 ⟨y, hym, rfl⟩)
        have het := enters_take (dl_get hy)
        refine r_skip ?_
        refine r_seq ?_
        refine r_block ?_
        refine r_seq ?_
        refine r_region ?_
        refine l_index ED rfl (hD.rd.le S1.le) rfl rfl Tryz.runUnderlying22 Tryz.sizeOf45 (by omega) hy ?_
        intro b29 o30 hat31 row32
        refine l_x rfl (x_load rfl (ld_row Tryz.isAgg45 Tryz.sizeOf45 rfl row32)) ?_
        refine l_alloc S1 rfl Tryz.zeroValue45 rfl ?_
        intro b36 w33 S34 hl35
        refine l_stores (vs := [_, _, _, _, _, _, _, _, _, _, _]) S34 1 rfl rfl rfl rfl (ones_cons rfl (ones_cons rfl (ones_cons rfl (ones_cons rfl (ones_cons rfl (ones_cons rfl (ones_cons rfl (ones_cons rfl (ones_cons rfl (ones_cons (Rd.one ((hD.sub _ hym).1.le S34.le)) (ones_cons (Rd.one ((hD.sub _ hym).2.le S34.le)) ones_nil))))))))))) Tryz.sizeOf45 (by first | exact Nat.le_refl _ | simp) (splice_all rfl) ?_
        intro w37 S38 hk39
        refine l_nil ?_
        refine r_seq ?_
        refine r_region ?_
        refine l_x rfl (x_fieldAddr rfl Tryz.runUnderlying45 rfl Tryz.sizeOf5 (by decide)) ?_
        refine l_x rfl (x_load rfl (ld_blk (S38.blk 1 rfl) Tryz.isAgg5 rfl)) ?_
        refine l_x rfl (x_eql rfl rfl) ?_
        refine l_nil ?_
        refine r_ifd rfl (fun hc90 => ?_) (fun hc90 => ?_)
        · skip
          have hyp := formed_parts hyf hc90
          rw [if_pos hc90] at het
          refine r_region ?_
          refine l_x rfl (x_mv rfl) ?_
          refine l_x rfl (x_fieldAddr rfl Tryz.runUnderlying45 rfl Tryz.sizeOf3 (by decide)) ?_
          refine l_x rfl (x_load rfl (ld_blk (S38.blk 1 rfl) Tryz.isAgg3 rfl)) ?_
          refine l_x rfl (x_add rfl rfl (by omega)) ?_
          refine l_x rfl (x_as rfl) ?_
          refine l_nil ?_
          refine r_inBlock ?_
          refine r_region ?_
          refine l_x rfl (x_add rfl rfl (by omega)) ?_
          refine l_x rfl (x_mv rfl) ?_
          refine l_nil ?_
          exact IH (i + 1) _ _ (by omega) ⟨rfl, (congrArg (Value.int .i64) (by rw [het]; omega)), rfl, rfl, rfl, trivial⟩ ⟨by omega, (S38.take 1)⟩
        rw [if_neg hc90] at het
        refine r_skip ?_
        refine r_inBlock ?_
        refine r_region ?_
        refine l_x rfl (x_add rfl rfl (by omega)) ?_
        refine l_x rfl (x_mv rfl) ?_
        refine l_nil ?_
        exact IH (i + 1) _ _ (by omega) ⟨rfl, (congrArg (Value.int .i64) (by rw [het]; omega)), rfl, rfl, rfl, trivial⟩ ⟨by omega, (S38.take 1)⟩
      obtain rfl : i = rs.length := by omega
      have hent : enters (dl rs) = enters ((dl rs).take rs.length) := by rw [← dl_len, List.take_length]
      refine r_exit rfl ?_
      refine r_seq ?_
      refine r_region ?_
      refine l_x rfl (x_mv rfl) ?_
      refine l_x rfl (x_gtr rfl rfl) ?_
      refine l_nil ?_
      refine r_ifd rfl (fun hc97 => ?_) (fun hc97 => ?_)
      · skip
        refine r_seq ?_
        refine r_region ?_
        refine l_x rfl (x_as rfl) ?_
        refine l_nil ?_
        refine r_ret (rs := [.tmp 4]) [_] Tryz.func35 rfl ⟨rfl, trivial⟩ ?_
        exact ⟨congrArg (Value.int .i64) (by rw [fol_enter hlt hfo hid htm (by omega) hc76, hent]; split <;> omega), S1.le⟩
      refine r_skip ?_
      refine r_inBlock ?_
      refine r_seq ?_
      refine r_region ?_
      refine l_x rfl (x_as rfl) ?_
      refine l_nil ?_
      refine r_ret (rs := [.tmp 4]) [_] Tryz.func35 rfl ⟨rfl, trivial⟩ ?_
      exact ⟨congrArg (Value.int .i64) (by rw [fol_enter hlt hfo hid htm (by omega) hc76, hent]; split <;> omega), S1.le⟩
    refine r_skip ?_
    refine r_inBlock ?_
    refine r_seq ?_
    refine r_region ?_
    refine l_x rfl (x_as rfl) ?_
    refine l_nil ?_
    refine r_ret (rs := [.tmp 4]) [_] Tryz.func35 rfl ⟨rfl, trivial⟩ ?_
    exact ⟨congrArg (Value.int .i64) (fol_else hlt hfo hid htm (by omega) hc76).symm, S14.le⟩
  have htm := fol_last0 (x := a.1) (rs := rs) (by omega)
  refine w_pass rfl ?_
  refine w_pass rfl ?_
  refine w_pass rfl ?_
  refine w_pass rfl ?_
  refine w_pass rfl ?_
  refine w_pass rfl ?_
  refine w_pass rfl ?_
  refine w_pass rfl ?_
  refine w_pass rfl ?_
  refine w_pass rfl ?_
  refine w_x rfl (fun w1 h1 => x_pick_f rfl rfl) ?_
  refine w_x rfl (fun w1 h1 => x_as rfl) ?_
  refine w_nil ?_
  intro w40 hl41
  have S42 := S6.step hl41
  refine l_nil ?_
  refine r_false rfl ?_
  refine r_seq ?_
  refine r_region ?_
  refine l_x rfl (x_fieldAddr rfl Tryz.runUnderlying45 rfl Tryz.sizeOf3 (by decide)) ?_
  refine l_x rfl (x_load rfl (ld_blk (S42.blk 0 rfl) Tryz.isAgg3 rfl)) ?_
  refine l_x rfl (x_gtr rfl rfl) ?_
  refine l_x rfl (x_as rfl) ?_
  refine l_nil ?_
  refine r_ifd rfl (fun hc42 => ?_) (fun hc42 => ?_)
  · skip
    have hofb := formed_of hfo (by omega)
    have hany : (dl rs).any (fun z => decide (z.kind = 8 ∧ z.of = a.1.of)) = rs.any (fun z => decide (z.1.kind = 8 ∧ z.1.of = a.1.of)) := dl_any
    obtain ⟨y, hyo⟩ : ∃ y, rs[(a.1.of - 1).toNat]? = some y := ⟨_, List.getElem?_eq_getElem (by rw [dl_len] at hid; omega)⟩
    have hym := List.mem_of_getElem? hyo
    refine r_seq ?_
    refine r_region ?_
    refine l_x rfl (x_mv rfl) ?_
    refine l_x rfl (x_fieldAddr rfl Tryz.runUnderlying45 rfl Tryz.sizeOf3 (by decide)) ?_
    refine l_x rfl (x_load rfl (ld_blk (S42.blk 0 rfl) Tryz.isAgg3 rfl)) ?_
    refine l_x rfl (x_sub rfl rfl (by omega)) ?_
    refine l_index ED rfl (hD.rd.le S42.le) rfl rfl Tryz.runUnderlying22 Tryz.sizeOf45 (by omega) hyo ?_
    intro b43 o44 hat45 row46
    refine l_x rfl (x_load rfl (ld_row Tryz.isAgg45 Tryz.sizeOf45 rfl row46)) ?_
    refine l_alloc S42 rfl Tryz.zeroValue45 rfl ?_
    intro b50 w47 S48 hl49
    refine l_stores (vs := [_, _, _, _, _, _, _, _, _, _, _]) S48 1 rfl rfl rfl rfl (ones_cons rfl (ones_cons rfl (ones_cons rfl (ones_cons rfl (ones_cons rfl (ones_cons rfl (ones_cons rfl (ones_cons rfl (ones_cons rfl (ones_cons (Rd.one ((hD.sub _ hym).1.le S48.le)) (ones_cons (Rd.one ((hD.sub _ hym).2.le S48.le)) ones_nil))))))))))) Tryz.sizeOf45 (by first | exact Nat.le_refl _ | simp) (splice_all rfl) ?_
    intro w51 S52 hk53
    refine l_nil ?_
    refine r_seq ?_
    refine r_region ?_
    refine l_x rfl (x_mv rfl) ?_
    refine l_x rfl (x_func rfl rfl) ?_
    refine l_call [] [] [_, _] rfl rfl Tryz.call67 rfl (c_ContainsFuncDeed _ rs (fun z => decide (z.1.kind = 8 ∧ z.1.of = a.1.of)) 68 [_] (by omega) _ (hD.le S52.le) Tryz.call68 (fun x hx w1 h1 => c_follows1 x a _ w1 ((hD.sub x hx).le (S52.le.trans h1)) ((S52.blk 0 rfl).keep h1 id))) ?_
    rintro _ w54 ⟨rfl, hl56⟩
    have S55 := S52.step hl56
    refine l_x rfl (x_as rfl) ?_
    refine l_nil ?_
    refine r_seq ?_
    refine r_region ?_
    refine l_x rfl (x_fieldAddr rfl Tryz.runUnderlying45 rfl Tryz.sizeOf5 (by decide)) ?_
    refine l_x rfl (x_load rfl (ld_blk (S55.blk 0 rfl) Tryz.isAgg5 rfl)) ?_
    refine l_x rfl (x_eql rfl rfl) ?_
    refine l_x rfl (x_mv rfl) ?_
    refine l_splitd (d := 58) rfl (fun hg58 => ?_) (fun hg58 => ?_)
    · skip
      refine l_x rfl (x_fieldAddr rfl Tryz.runUnderlying45 rfl Tryz.sizeOf5 (by decide)) ?_
      refine l_x rfl (x_load rfl (ld_blk (S55.blk 1 rfl) Tryz.isAgg5 rfl)) ?_
      refine l_x rfl (x_eql rfl rfl) ?_
      refine l_x rfl (x_mv rfl) ?_
      refine l_splitd (d := 62) rfl (fun hg62 => ?_) (fun hg62 => ?_)
      · skip
        refine l_pass rfl ?_
        refine l_x rfl (x_pick_t rfl rfl) ?_
        refine l_x rfl (x_pick_t rfl rfl) ?_
        refine l_x rfl (x_mv rfl) ?_
        refine l_pass rfl ?_
        refine l_pass rfl ?_
        refine l_pass rfl ?_
        refine l_pass rfl ?_
        refine l_pass rfl ?_
        refine l_pass rfl ?_
        refine l_pass rfl ?_
        refine l_pass rfl ?_
        refine l_x rfl (x_pick_t rfl rfl) ?_
        refine l_nil ?_
        refine r_true rfl ?_
        refine r_seq ?_
        refine r_region ?_
        refine l_x rfl (x_as rfl) ?_
        refine l_nil ?_
        refine r_ret (rs := [.tmp 4]) [_] Tryz.func35 rfl ⟨rfl, trivial⟩ ?_
        exact ⟨congrArg (Value.int .i64) (by rw [fol_of hlt hfo hid htm (by omega), named_at (dl_get hyo), hany]; generalize (rs.any fun z => decide (z.1.kind = 8 ∧ z.1.of = a.1.of)) = q at *; simp_all), S55.le⟩
      refine l_x rfl (x_mv rfl) ?_
      refine l_x rfl (x_pick_f rfl rfl) ?_
      refine l_x rfl (x_pick_t rfl rfl) ?_
      refine l_x rfl (x_mv rfl) ?_
      refine l_split (d := 66) rfl (fun hg66 => ?_) (fun hg66 => ?_)
      · skip
        refine l_pass rfl ?_
        refine l_pass rfl ?_
        refine l_pass rfl ?_
        refine l_pass rfl ?_
        refine l_pass rfl ?_
        refine l_pass rfl ?_
        refine l_pass rfl ?_
        refine l_pass rfl ?_
        refine l_x rfl (x_pick_t rfl rfl) ?_
        refine l_nil ?_
        refine r_true rfl ?_
        refine r_seq ?_
        refine r_region ?_
        refine l_x rfl (x_as rfl) ?_
        refine l_nil ?_
        refine r_ret (rs := [.tmp 4]) [_] Tryz.func35 rfl ⟨rfl, trivial⟩ ?_
        exact ⟨congrArg (Value.int .i64) (by rw [fol_of hlt hfo hid htm (by omega), named_at (dl_get hyo), hany]; generalize (rs.any fun z => decide (z.1.kind = 8 ∧ z.1.of = a.1.of)) = q at *; simp_all), S55.le⟩
      refine l_x rfl (x_fieldAddr rfl Tryz.runUnderlying45 rfl Tryz.sizeOf5 (by decide)) ?_
      refine l_x rfl (x_load rfl (ld_blk (S55.blk 0 rfl) Tryz.isAgg5 rfl)) ?_
      refine l_x rfl (x_neq rfl rfl) ?_
      refine l_x rfl (x_mv rfl) ?_
      refine l_splitd (d := 70) rfl (fun hg70 => ?_) (fun hg70 => ?_)
      · skip
        refine l_x rfl (x_fieldAddr rfl Tryz.runUnderlying45 rfl Tryz.sizeOf5 (by decide)) ?_
        refine l_x rfl (x_load rfl (ld_blk (S55.blk 1 rfl) Tryz.isAgg5 rfl)) ?_
        refine l_x rfl (x_neq rfl rfl) ?_
        refine l_x rfl (x_pick_t rfl rfl) ?_
        refine l_x rfl (x_pick_f rfl rfl) ?_
        refine l_nil ?_
        refine r_ifd rfl (fun hc75 => ?_) (fun hc75 => ?_)
        · skip
          refine r_seq ?_
          refine r_region ?_
          refine l_x rfl (x_as rfl) ?_
          refine l_nil ?_
          refine r_ret (rs := [.tmp 4]) [_] Tryz.func35 rfl ⟨rfl, trivial⟩ ?_
          exact ⟨congrArg (Value.int .i64) (by rw [fol_of hlt hfo hid htm (by omega), named_at (dl_get hyo), hany]; generalize (rs.any fun z => decide (z.1.kind = 8 ∧ z.1.of = a.1.of)) = q at *; simp_all), S55.le⟩
        refine r_skip ?_
        refine r_inBlock ?_
        refine r_seq ?_
        refine r_region ?_
        refine l_x rfl (x_as rfl) ?_
        refine l_nil ?_
        refine r_ret (rs := [.tmp 4]) [_] Tryz.func35 rfl ⟨rfl, trivial⟩ ?_
        exact ⟨congrArg (Value.int .i64) (by rw [fol_of hlt hfo hid htm (by omega), named_at (dl_get hyo), hany]; generalize (rs.any fun z => decide (z.1.kind = 8 ∧ z.1.of = a.1.of)) = q at *; simp_all), S55.le⟩
      refine l_pass rfl ?_
      refine l_pass rfl ?_
      refine l_pass rfl ?_
      refine l_x rfl (x_pick_f rfl rfl) ?_
      refine l_x rfl (x_pick_f rfl rfl) ?_
      refine l_nil ?_
      refine r_false rfl ?_
      refine r_skip ?_
      refine r_inBlock ?_
      refine r_seq ?_
      refine r_region ?_
      refine l_x rfl (x_as rfl) ?_
      refine l_nil ?_
      refine r_ret (rs := [.tmp 4]) [_] Tryz.func35 rfl ⟨rfl, trivial⟩ ?_
      exact ⟨congrArg (Value.int .i64) (by rw [fol_of hlt hfo hid htm (by omega), named_at (dl_get hyo), hany]; generalize (rs.any fun z => decide (z.1.kind = 8 ∧ z.1.of = a.1.of)) = q at *; simp_all), S55.le⟩
    refine l_pass rfl ?_
    refine l_pass rfl ?_
    refine l_pass rfl ?_
    refine l_pass rfl ?_
    refine l_pass rfl ?_
    refine l_pass rfl ?_
    refine l_x rfl (x_pick_f rfl rfl) ?_
    refine l_x rfl (x_mv rfl) ?_
    refine l_x rfl (x_fieldAddr rfl Tryz.runUnderlying45 rfl Tryz.sizeOf5 (by decide)) ?_
    refine l_x rfl (x_load rfl (ld_blk (S55.blk 0 rfl) Tryz.isAgg5 rfl)) ?_
    refine l_x rfl (x_neq rfl rfl) ?_
    refine l_x rfl (x_mv rfl) ?_
    refine l_splitd (d := 70) rfl (fun hg70 => ?_) (fun hg70 => ?_)
    · skip
      refine l_x rfl (x_fieldAddr rfl Tryz.runUnderlying45 rfl Tryz.sizeOf5 (by decide)) ?_
      refine l_x rfl (x_load rfl (ld_blk (S55.blk 1 rfl) Tryz.isAgg5 rfl)) ?_
      refine l_x rfl (x_neq rfl rfl) ?_
      refine l_x rfl (x_pick_t rfl rfl) ?_
      refine l_x rfl (x_pick_f rfl rfl) ?_
      refine l_nil ?_
      refine r_ifd rfl (fun hc75 => ?_) (fun hc75 => ?_)
      · skip
        refine r_seq ?_
        refine r_region ?_
        refine l_x rfl (x_as rfl) ?_
        refine l_nil ?_
        refine r_ret (rs := [.tmp 4]) [_] Tryz.func35 rfl ⟨rfl, trivial⟩ ?_
        exact ⟨congrArg (Value.int .i64) (by rw [fol_of hlt hfo hid htm (by omega), named_at (dl_get hyo), hany]; generalize (rs.any fun z => decide (z.1.kind = 8 ∧ z.1.of = a.1.of)) = q at *; simp_all), S55.le⟩
      refine r_skip ?_
      refine r_inBlock ?_
      refine r_seq ?_
      refine r_region ?_
      refine l_x rfl (x_as rfl) ?_
      refine l_nil ?_
      refine r_ret (rs := [.tmp 4]) [_] Tryz.func35 rfl ⟨rfl, trivial⟩ ?_
      exact ⟨congrArg (Value.int .i64) (by rw [fol_of hlt hfo hid htm (by omega), named_at (dl_get hyo), hany]; generalize (rs.any fun z => decide (z.1.kind = 8 ∧ z.1.of = a.1.of)) = q at *; simp_all), S55.le⟩
    refine l_pass rfl ?_
    refine l_pass rfl ?_
    refine l_pass rfl ?_
    refine l_x rfl (x_pick_f rfl rfl) ?_
    refine l_x rfl (x_pick_f rfl rfl) ?_
    refine l_nil ?_
    refine r_false rfl ?_
    refine r_skip ?_
    refine r_inBlock ?_
    refine r_seq ?_
    refine r_region ?_
    refine l_x rfl (x_as rfl) ?_
    refine l_nil ?_
    refine r_ret (rs := [.tmp 4]) [_] Tryz.func35 rfl ⟨rfl, trivial⟩ ?_
    exact ⟨congrArg (Value.int .i64) (by rw [fol_of hlt hfo hid htm (by omega), named_at (dl_get hyo), hany]; generalize (rs.any fun z => decide (z.1.kind = 8 ∧ z.1.of = a.1.of)) = q at *; simp_all), S55.le⟩
  refine r_seq ?_
  refine r_region ?_
  refine l_x rfl (x_fieldAddr rfl Tryz.runUnderlying45 rfl Tryz.sizeOf5 (by decide)) ?_
  refine l_x rfl (x_load rfl (ld_blk (S42.blk 0 rfl) Tryz.isAgg5 rfl)) ?_
  refine l_x rfl (x_eql rfl rfl) ?_
  refine l_x rfl (x_as rfl) ?_
  refine l_nil ?_
  refine r_ifd rfl (fun hc76 => ?_) (fun hc76 => ?_)
  · skip
    have hpb := formed_parts hfo hc76
    refine r_seq ?_
    refine r_region ?_
    refine l_x rfl (x_fieldAddr rfl Tryz.runUnderlying45 rfl Tryz.sizeOf3 (by decide)) ?_
    refine l_x rfl (x_load rfl (ld_blk (S42.blk 0 rfl) Tryz.isAgg3 rfl)) ?_
    refine l_x rfl (x_as rfl) ?_
    refine l_nil ?_
    refine r_seq ?_
    refine r_seq ?_
    refine r_region ?_
    refine l_x rfl (x_mv rfl) ?_
    refine l_x rfl (x_len (hD.rd.le S42.le) rfl Tryz.runUnderlying22) ?_
    refine l_x rfl (x_mv rfl) ?_
    refine l_nil ?_
    refine r_block ?_
    refine r_loop (G := Nat) (fun i => rs.length - i) (fun i => [(3, .pointer (some ⟨b4, 0, none⟩)), (7, .int .i64 (a.1.parts + enters ((dl rs).take i))), (82, vl), (83, .int .i64 rs.length), (84, .int .i64 i)]) (fun i w' => (i ≤ rs.length) ∧ Own nob w w' [blk b4 (encD a) 45]) 0 ⟨rfl, (congrArg (Value.int .i64) (by rw [List.take_zero]; simp [enters, sumI])), rfl, rfl, rfl, trivial⟩ ⟨Nat.zero_le _, (S42.take 1)⟩ ?_
    rintro i ρ w1 ⟨hi, S1⟩ IH
    have hbd := enters_bd_take hf i hlt
    refine r_seq ?_
    refine r_region ?_
    refine l_x rfl (x_lss rfl rfl) ?_
    refine l_nil ?_
    refine r_seq ?_
    refine r_ifd rfl (fun hc85 => ?_) (fun hc85 => ?_)
    · skip
      obtain ⟨y, hy⟩ : ∃ y, rs[i]? = some y := ⟨_, List.getElem?_eq_getElem (by omega)⟩
      have hym := List.mem_of_getElem? hy
      have hyf := hf y.1 (List.mem_map.2 ⟨y, hym, rfl⟩)
      have het := enters_take (dl_get hy)
      refine r_skip ?_
      refine r_seq ?_
      refine r_block ?_
      refine r_seq ?_
      refine r_region ?_
      refine l_index ED rfl (hD.rd.le S1.le) rfl rfl Tryz.runUnderlying22 Tryz.sizeOf45 (by omega) hy ?_
      intro b57 o58 hat59 row60
      refine l_x rfl (x_load rfl (ld_row Tryz.isAgg45 Tryz.sizeOf45 rfl row60)) ?_
      refine l_alloc S1 rfl Tryz.zeroValue45 rfl ?_
      intro b64 w61 S62 hl63
      refine l_stores (vs := [_, _, _, _, _, _, _, _, _, _, _]) S62 1 rfl rfl rfl rfl (ones_cons rfl (ones_cons rfl (ones_cons rfl (ones_cons rfl (ones_cons rfl (ones_cons rfl (ones_cons rfl (ones_cons rfl (ones_cons rfl (ones_cons (Rd.one ((hD.sub _ hym).1.le S62.le)) (ones_cons (Rd.one ((hD.sub _ hym).2.le S62.le)) ones_nil))))))))))) Tryz.sizeOf45 (by first | exact Nat.le_refl _ | simp) (splice_all rfl) ?_
      intro w65 S66 hk67
      refine l_nil ?_
      refine r_seq ?_
      refine r_region ?_
      refine l_x rfl (x_fieldAddr rfl Tryz.runUnderlying45 rfl Tryz.sizeOf5 (by decide)) ?_
      refine l_x rfl (x_load rfl (ld_blk (S66.blk 1 rfl) Tryz.isAgg5 rfl)) ?_
      refine l_x rfl (x_eql rfl rfl) ?_
      refine l_nil ?_
      refine r_ifd rfl (fun hc90 => ?_) (fun hc90 => ?_)
      · skip
        have hyp := formed_parts hyf hc90
        rw [if_pos hc90] at het
        refine r_region ?_
        refine l_x rfl (x_mv rfl) ?_
        refine l_x rfl (x_fieldAddr rfl Tryz.runUnderlying45 rfl Tryz.sizeOf3 (by decide)) ?_
        refine l_x rfl (x_load rfl (ld_blk (S66.blk 1 rfl) Tryz.isAgg3 rfl)) ?_
        refine l_x rfl (x_add rfl rfl (by omega)) ?_
        refine l_x rfl (x_as rfl) ?_
        refine l_nil ?_
        refine r_inBlock ?_
        refine r_region ?_
        refine l_x rfl (x_add rfl rfl (by omega)) ?_
        refine l_x rfl (x_mv rfl) ?_
        refine l_nil ?_
        exact IH (i + 1) _ _ (by omega) ⟨rfl, (congrArg (Value.int .i64) (by rw [het]; omega)), rfl, rfl, rfl, trivial⟩ ⟨by omega, (S66.take 1)⟩
      rw [if_neg hc90] at het
      refine r_skip ?_
      refine r_inBlock ?_
      refine r_region ?_
      refine l_x rfl (x_add rfl rfl (by omega)) ?_
      refine l_x rfl (x_mv rfl) ?_
      refine l_nil ?_
      exact IH (i + 1) _ _ (by omega) ⟨rfl, (congrArg (Value.int .i64) (by rw [het]; omega)), rfl, rfl, rfl, trivial⟩ ⟨by omega, (S66.take 1)⟩
    obtain rfl : i = rs.length := by omega
    have hent : enters (dl rs) = enters ((dl rs).take rs.length) := by rw [← dl_len, List.take_length]
    refine r_exit rfl ?_
    refine r_seq ?_
    refine r_region ?_
    refine l_x rfl (x_mv rfl) ?_
    refine l_x rfl (x_gtr rfl rfl) ?_
    refine l_nil ?_
    refine r_ifd rfl (fun hc97 => ?_) (fun hc97 => ?_)
    · skip
      refine r_seq ?_
      refine r_region ?_
      refine l_x rfl (x_as rfl) ?_
      refine l_nil ?_
      refine r_ret (rs := [.tmp 4]) [_] Tryz.func35 rfl ⟨rfl, trivial⟩ ?_
      exact ⟨congrArg (Value.int .i64) (by rw [fol_enter hlt hfo hid htm (by omega) hc76, hent]; split <;> omega), S1.le⟩
    refine r_skip ?_
    refine r_inBlock ?_
    refine r_seq ?_
    refine r_region ?_
    refine l_x rfl (x_as rfl) ?_
    refine l_nil ?_
    refine r_ret (rs := [.tmp 4]) [_] Tryz.func35 rfl ⟨rfl, trivial⟩ ?_
    exact ⟨congrArg (Value.int .i64) (by rw [fol_enter hlt hfo hid htm (by omega) hc76, hent]; split <;> omega), S1.le⟩
  refine r_skip ?_
  refine r_inBlock ?_
  refine r_seq ?_
  refine r_region ?_
  refine l_x rfl (x_as rfl) ?_
  refine l_nil ?_
  refine r_ret (rs := [.tmp 4]) [_] Tryz.func35 rfl ⟨rfl, trivial⟩ ?_
  exact ⟨congrArg (Value.int .i64) (fol_else hlt hfo hid htm (by omega) hc76).symm, S42.le⟩

end Go.Proofs

/-
  Contracts of functions of the program: each by symbolic execution of its text.
-/
namespace Go.Proofs
open Go Go.Vk Go.Vk.Flow

open Go.Vk.Deed
theorem _root_.Go.Vk.Deed.DsR.take {w w' : World} {v v' : Value} {rs : List Rw} {i : Nat} (h : DsR 45 3 w v rs) (hk : Le w w') (h2 : Rd ED w' v' (rs.take i)) : DsR 45 3 w' v' (rs.take i) :=
  ⟨h2, fun a ha => (h.sub a (List.mem_of_mem_take ha)).le hk, by have := h.lm; rw [List.length_take]; omega⟩
theorem chk_form {l : List D} {i : Nat} (h : ∀ j, j < i → chkAt l j = 0) : ∀ y ∈ l.take i, formed y = true := by
  intro y hy
  obtain ⟨j, hj⟩ := List.getElem?_of_mem hy
  rw [List.getElem?_take] at hj
  split at hj
  · next hji =>
    have := h j hji
    rw [chkAt_get hj] at this
    exact (follows_formed this).1
  cases hj
theorem all_step {P : Nat → Prop} {i : Nat} (h : ∀ j, j < i → P j) (hi : P i) : ∀ j, j < i + 1 → P j := by
  intro j hj
  rcases Nat.lt_or_ge j i with h1 | h1
  · exact h j h1
  obtain rfl : j = i := by omega
  exact hi

/-- couchant/deed.Check. -/
theorem c_Check (rs : List Rw) (vl : Value) (w : World) (hD : DsR 45 3 w vl rs) :
    Cl Tryz.prog 13 #[vl] w fun v w' => v = .tuple #[.int .i64 (chkD (dl rs)).1, .int .i64 (chkD (dl rs)).2] ∧ Le w w' := by
  have hml := hD.lm
  refine fn_of_run (args := [_]) 25 Tryz.func13 rfl rfl rfl fun cs => ?_
  have S := Own.start (X := nob) w
  refine r_seq ?_
  refine r_region ?_
  refine l_x rfl (x_as rfl) ?_
  refine l_x rfl (x_as rfl) ?_
  refine l_nil ?_
  refine r_seq ?_
  refine r_seq ?_
  refine r_region ?_
  refine l_x rfl (x_mv rfl) ?_
  refine l_x rfl (x_len (hD.rd.le S.le) rfl Tryz.runUnderlying22) ?_
  refine l_x rfl (x_mv rfl) ?_
  refine l_nil ?_
  refine r_block ?_
  refine r_loop (G := Nat) (fun i => rs.length - i) (fun i => [(0, vl), (7, vl), (8, .int .i64 rs.length), (9, .int .i64 i)]) (fun i w' => (i ≤ rs.length) ∧ (∀ j, j < i → chkAt (dl rs) j = 0) ∧ Own nob w w' []) 0 ⟨rfl, rfl, rfl, rfl, trivial⟩ ⟨Nat.zero_le _, fun j h => absurd h (Nat.not_lt_zero j), (S.take 0)⟩ ?_
  rintro i ρ w1 ⟨hi, h0, S1⟩ IH
  refine r_seq ?_
  refine r_region ?_
  refine l_x rfl (x_lss rfl rfl) ?_
  refine l_nil ?_
  refine r_seq ?_
  refine r_ifd rfl (fun hc10 => ?_) (fun hc10 => ?_)
  · skip
    obtain ⟨a, ha⟩ : ∃ a, rs[i]? = some a := ⟨_, List.getElem?_eq_getElem (by omega)⟩
    have ham := List.mem_of_getElem? ha
    refine r_skip ?_
    refine r_seq ?_
    refine r_block ?_
    refine r_seq ?_
    refine r_region ?_
    refine l_x rfl (x_mv rfl) ?_
    refine l_index ED rfl (hD.rd.le S1.le) rfl rfl Tryz.runUnderlying22 Tryz.sizeOf45 (by omega) ha ?_
    intro b1 o2 hat3 row4
    refine l_x rfl (x_load rfl (ld_row Tryz.isAgg45 Tryz.sizeOf45 rfl row4)) ?_
    refine l_alloc S1 rfl Tryz.zeroValue45 rfl ?_
    intro b8 w5 S6 hl7
    refine l_x rfl (x_as rfl) ?_
    refine l_stores (vs := [_, _, _, _, _, _, _, _, _, _, _]) S6 0 rfl rfl rfl rfl (ones_cons rfl (ones_cons rfl (ones_cons rfl (ones_cons rfl (ones_cons rfl (ones_cons rfl (ones_cons rfl (ones_cons rfl (ones_cons rfl (ones_cons (Rd.one ((hD.sub _ ham).1.le S6.le)) (ones_cons (Rd.one ((hD.sub _ ham).2.le S6.le)) ones_nil))))))))))) Tryz.sizeOf45 (by first | exact Nat.le_refl _ | simp) (splice_all rfl) ?_
    intro w9 S10 hk11
    refine l_nil ?_
    refine r_seq ?_
    refine r_drawE 7 nob Tryz.mixed (by kernel_rfl) ?_
    intro w12 hl13
    have S14 := S10.step hl13
    refine e_exact 0 _ (by kernel_rfl) rfl rfl (by kernel_rfl) rfl (ex_x rfl (fun w1 h1 => x_mv rfl)) ?_
    refine e_exact 1 _ (by kernel_rfl) rfl rfl (by kernel_rfl) rfl (ex_x rfl (fun w1 h1 => x_mv rfl)) ?_
    refine e_exact 2 _ (by kernel_rfl) rfl rfl (by kernel_rfl) rfl (ex_x rfl (fun w1 h1 => x_mv rfl)) ?_
    refine e_headm 3 (by kernel_rfl) rfl rfl (by kernel_rfl) rfl rfl (hD.rd.le S14.le) rfl rfl rfl Tryz.runUnderlying22 Tryz.sizeOf45 (by omega) ?_
    intro v15 ht16
    refine e_exact 4 _ (by kernel_rfl) rfl rfl (by kernel_rfl) rfl (ex_x rfl (fun w1 h1 => x_load rfl (ld_blks ((S14.step h1).blk 0 rfl) Tryz.isAgg45 Tryz.sizeOf45 rfl rfl))) ?_
    refine e_next [5] (by kernel_rfl) (by kernel_rfl) ⟨⟨_, _, rfl, rfl, ?_⟩, trivial⟩
    refine s_callf [] [] [_, _] rfl rfl Tryz.call35 rfl ((c_follows (rs.take i) _ a (by rw [dl_take]; exact chk_form h0) _ (hD.take S14.le ht16) ((hD.sub a ham).le S14.le)).mono ?_)
    rintro _ w17 ⟨rfl, hl19⟩
    have S18 := S14.step hl19
    refine ⟨.of_le hl19, ?_⟩
    refine e_exact 6 _ (by kernel_rfl) rfl rfl (by kernel_rfl) rfl (ex_x rfl (fun w1 h1 => x_as rfl)) ?_
    refine e_done (by kernel_rfl) ?_
    refine l_nil ?_
    refine r_seq ?_
    refine r_slot 6 (.int .i64 (chkAt (dl rs) i)) (congrArg (Value.int .i64) (by rw [chkAt_get (dl_get ha), dl_take])) ?_
    refine r_region ?_
    refine l_x rfl (x_mv rfl) ?_
    refine l_x rfl (x_neq rfl rfl) ?_
    refine l_nil ?_
    refine r_ifd rfl (fun hc21 => ?_) (fun hc21 => ?_)
    · skip
      refine r_seq ?_
      refine r_region ?_
      refine l_x rfl (x_mv rfl) ?_
      refine l_x rfl (x_mv rfl) ?_
      refine l_x rfl (x_as rfl) ?_
      refine l_x rfl (x_as rfl) ?_
      refine l_nil ?_
      refine r_ret (rs := [.tmp 2, .tmp 3]) [_, _] Tryz.func13 rfl ⟨rfl, rfl, trivial⟩ ?_
      exact ⟨by show Value.tuple #[.int .i64 i, .int .i64 _] = _; rw [chk_at (by rw [dl_len]; omega) h0 hc21], S18.le⟩
    refine r_skip ?_
    refine r_inBlock ?_
    refine r_region ?_
    refine l_x rfl (x_add rfl rfl (by omega)) ?_
    refine l_x rfl (x_mv rfl) ?_
    refine l_nil ?_
    exact IH (i + 1) _ _ (by omega) ⟨rfl, rfl, rfl, rfl, trivial⟩ ⟨by omega, all_step h0 (by simpa using hc21), (S18.take 0)⟩
  obtain rfl : i = rs.length := by omega
  refine r_exit rfl ?_
  refine r_seq ?_
  refine r_region ?_
  refine l_x rfl (x_as rfl) ?_
  refine l_x rfl (x_as rfl) ?_
  refine l_nil ?_
  refine r_ret (rs := [.tmp 2, .tmp 3]) [_, _] Tryz.func13 rfl ⟨rfl, rfl, trivial⟩ ?_
  exact ⟨by show Value.tuple #[.int .i64 0, .int .i64 0] = _; rw [chk_none (by rw [dl_len]; exact h0)], S1.le⟩

/-- couchant/deed.right. -/
theorem c_right (rs : List Rw) (vl : Value) (w : World) (hD : DsR 45 3 w vl rs) :
    Cl Tryz.prog 39 #[vl] w fun v w' => v = .bool (rightD (dl rs)) ∧ Le w w' := by
  refine fn_of_run (args := [_]) 12 Tryz.func39 rfl rfl rfl fun cs => ?_
  have S := Own.start (X := nob) w
  refine r_seq ?_
  refine r_region ?_
  refine l_x rfl (x_as rfl) ?_
  refine l_nil ?_
  refine r_seq ?_
  refine r_region ?_
  refine l_x rfl (x_mv rfl) ?_
  refine l_call [] [] [_] rfl rfl Tryz.call13 rfl (c_Check rs _ _ (hD.le S.le)) ?_
  rintro _ w1 ⟨rfl, hl3⟩
  have S2 := S.step hl3
  refine l_x rfl (x_mv rfl) ?_
  refine l_x rfl (x_extract rfl rfl) ?_
  refine l_x rfl (x_extract rfl rfl) ?_
  refine l_x rfl (x_as rfl) ?_
  refine l_x rfl (x_as rfl) ?_
  refine l_nil ?_
  refine r_seq ?_
  refine r_region ?_
  refine l_x rfl (x_mv rfl) ?_
  refine l_x rfl (x_eql rfl rfl) ?_
  refine l_x rfl (x_as rfl) ?_
  refine l_nil ?_
  refine r_ret (rs := [.tmp 2]) [_] Tryz.func39 rfl ⟨rfl, trivial⟩ ?_
  exact ⟨rfl, S2.le⟩

end Go.Proofs
