/- Texts joined for claims: Facts, K1, M1, M2, M3, M4. -/
import Derived.Test.YtaigapdghhoncaaGreatDoorProg
import Derived.Test.YtaigapdghhoncaaGreatDoorKc2c3a9d66c
import Derived.Test.YtaigapdghhoncaaGreatDoorK92608acdbc
import Derived.Test.YtaigapdghhoncaaGreatDoorK1261470d5f
set_option linter.unusedVariables false
set_option linter.unusedSimpArgs false
set_option linter.unusedSectionVars false
namespace Go.Proofs
open Go Go.Vk Go.Vk.Flow

open Go.Vk.Mark
open Go.Vk.Deed (i64 rng rng_iff owners sumI sumI_cons sumI_snoc)
theorem Tryz.mixed : Tryz.prog.follows .mixedOrders = true := by kernel_rfl
abbrev EI := intE 3
abbrev EB := boolE 4
abbrev EU := u8E 5
abbrev EMK := mkE 39
abbrev EFD := fdE 41
abbrev ESG := sgE 30
abbrev ECL := clE 83
abbrev EPR := prE 48
theorem info3 : Tryz.prog.info? 3 = some Tryz.t3 := by kernel_rfl
theorem info39 : Tryz.prog.info? 39 = some Tryz.t39 := by kernel_rfl
theorem info83 : Tryz.prog.info? 83 = some Tryz.t83 := by kernel_rfl
theorem info48 : Tryz.prog.info? 48 = some Tryz.t48 := by kernel_rfl
theorem cellsI : Tryz.prog.cellsOf 3 = 1 := by kernel_rfl
theorem decF {p : Prop} [Decidable p] (h : ¬ p) : false = decide p := (decide_eq_false h).symm
theorem decT {p : Prop} [Decidable p] (h : p) : true = decide p := (decide_eq_true h).symm
theorem decE {p q : Prop} [Decidable p] [Decidable q] (h : p ↔ q) : decide p = decide q := decide_eq_decide.2 h
theorem all_not_any {α : Type} (l : List α) (p : α → Bool) : (!l.any fun x => !p x) = l.all p := by induction l with
 | nil => rfl
 | cons x l ih => rw [List.any_cons, List.all_cons, Bool.not_or, Bool.not_not, ih]

end Go.Proofs

namespace Go.Proofs
open Go Go.Vk Go.Vk.Flow

open Go.Vk.Mark
open Go.Vk.Deed (i64 rng rng_iff owners sumI sumI_cons sumI_snoc)

theorem laidT : laidOutB Tryz.prog = true := by kernel_rfl
theorem lit8 {d : Nat} {n : Int} (h : B8 n) : Tryz.prog.keyLits (d + 1) 5 [.int .u8 n] = some [.int .u8 n] := by
 have hu : Tryz.prog.underlying 5 = some (.int .u8) := Tryz.underlying5
 have hw : (Lit.int .u8 n).wf = true := by
  unfold B8 at h
  simp [Lit.wf, IntKind.min, IntKind.max, IntKind.bits, IntKind.signed]; omega
 simp [Program.keyLits, hu, hw]

theorem tsize : Tryz.prog.types.size = 319 := by kernel_rfl
theorem lit64 {d : Nat} {n : Int} (h : B64 n) : Tryz.prog.keyLits (d + 1) 3 [.int .i64 n] = some [.int .i64 n] := by
 have hu : Tryz.prog.underlying 3 = some (.int .i64) := Tryz.underlying3
 have hw : (Lit.int .i64 n).wf = true := by
  unfold B64 at h
  simp [Lit.wf, IntKind.min, IntKind.max, IntKind.bits, IntKind.signed]; omega
 simp [Program.keyLits, hu, hw]
theorem cells5 : Tryz.prog.cellsOf 5 = 1 := by kernel_rfl
theorem cellsG : Tryz.prog.cellsOf 28 = 6 := by kernel_rfl
theorem cellsS : Tryz.prog.cellsOf 30 = 6 := by kernel_rfl
theorem cellsM : Tryz.prog.cellsOf 39 = 9 := by kernel_rfl
theorem cellsF : Tryz.prog.cellsOf 41 = 2 := by kernel_rfl
theorem cellsP : Tryz.prog.cellsOf 48 = 2 := by kernel_rfl
theorem sgLits {d : Nat} {a : Sg} (h : SgOk a) : Tryz.prog.keyLits (d + 2) 28 (encSg a) = some [.int .u8 a.a0, .int .u8 a.a1, .int .u8 a.a2, .int .u8 a.a3, .int .u8 a.a4, .int .u8 a.a5] := by
 have hu : Tryz.prog.underlying 28 = some (.array 6 5) := Tryz.underlying28
 unfold Program.keyLits
 simp only [hu, cellsG, cells5]
 rw [if_pos (show (encSg a).length = 6 from rfl)]
 simp [encSg, List.range_succ, lit8 h.h0, lit8 h.h1, lit8 h.h2, lit8 h.h3, lit8 h.h4, lit8 h.h5]
theorem keyOf_of {T : TypeId} {cs : List Value} {L : List Lit} (hk : Tryz.prog.keyType T = true) (hw : (match Tryz.prog.underlying T with | some (.array _ _) | some (.struct _) => true | _ => false) = true) (hc : cs.length = Tryz.prog.cellsOf T) (h : Tryz.prog.keyLits 320 T cs = some L) :
  ∃ l, keyOf Tryz.prog T (.agg cs.toArray) = some l := by
 have hf : Value.formed Tryz.prog T (.agg cs.toArray) = true := by
  unfold Value.formed
  split at hw <;> simp_all
 unfold keyOf
 split at hw
 ·next h1 => rw [h1]; simp only [hk, hf, tsize, Bool.and_self, if_true]; exact ⟨_, by rw [show (Value.agg cs.toArray).cells.toList = cs from by simp [Value.cells]]; rw [h]; rfl⟩
 ·next h1 => rw [h1]; simp only [hk, hf, tsize, Bool.and_self, if_true]; exact ⟨_, by rw [show (Value.agg cs.toArray).cells.toList = cs from by simp [Value.cells]]; rw [h]; rfl⟩
 cases hw
theorem sgHas {a : Sg} (h : SgOk a) : ∃ l, keyOf Tryz.prog 28 (.agg (encSg a).toArray) = some l := keyOf_of (by kernel_rfl) (by kernel_rfl) (by rw [cellsG]; rfl) (sgLits h)

theorem keySg : KeyS Tryz.prog 28 (fun a : Sg => Value.agg (encSg a).toArray) SgOk where
 law := deep_law_laid laidT (m := 3) (by omega) (by decide +kernel) (by kernel_rfl) (by kernel_rfl)
 typ := ⟨3, by omega, by kernel_rfl⟩
 wide := by kernel_rfl
 grd := by kernel_rfl
 has := fun a h => sgHas h
 agg := fun a => ⟨_, rfl⟩
 inj := fun a b h => sg_inj h

theorem siLits {d : Nat} {a : Sg} (h : SgOk a) : ∃ L, Tryz.prog.keyLits (d + 3) 30 (encSg a) = some L := by
 have hu := Tryz.underlying30
 have hg := sgLits (d := d) h
 unfold Program.keyLits
 simp only [hu, cellsS]
 rw [if_pos (by exact ⟨rfl, by simp⟩)]
 have e : ((encSg a).drop 0).take (Tryz.prog.cellsOf 28) = encSg a := by rw [cellsG]; rfl
 refine ⟨[.int .u8 a.a0, .int .u8 a.a1, .int .u8 a.a2, .int .u8 a.a3, .int .u8 a.a4, .int .u8 a.a5], ?_⟩
 simp only [List.mapM_cons, List.mapM_nil, e, hg]
 rfl
theorem siHas {a : Sg} (h : SgOk a) : ∃ l, keyOf Tryz.prog 30 (.agg (encSg a).toArray) = some l := by
 obtain ⟨L, hL⟩ := siLits (d := 317) h
 exact keyOf_of (by kernel_rfl) (by kernel_rfl) (by rw [cellsS]; rfl) hL
theorem mkLits {d : Nat} {a : Mk} (h : MkOk a) : ∃ L, Tryz.prog.keyLits (d + 3) 39 (encMk a) = some L := by
 have hu := Tryz.underlying39
 have hg := sgLits (d := d) h.s
 unfold Program.keyLits
 simp only [hu, cellsM]
 rw [if_pos (by exact ⟨rfl, by simp⟩)]
 have e : ((encMk a).drop 3).take (Tryz.prog.cellsOf 28) = encSg a.s := by rw [cellsG]; rfl
 have e0 : ((encMk a).drop 0).take (Tryz.prog.cellsOf 3) = [i64 a.owner] := by rw [cellsI]; rfl
 have e1 : ((encMk a).drop 1).take (Tryz.prog.cellsOf 3) = [i64 a.frm] := by rw [cellsI]; rfl
 have e2 : ((encMk a).drop 2).take (Tryz.prog.cellsOf 3) = [i64 a.til] := by rw [cellsI]; rfl
 refine ⟨[.int .i64 a.owner, .int .i64 a.frm, .int .i64 a.til, .int .u8 a.s.a0, .int .u8 a.s.a1, .int .u8 a.s.a2, .int .u8 a.s.a3, .int .u8 a.s.a4, .int .u8 a.s.a5], ?_⟩
 simp only [List.mapM_cons, List.mapM_nil, e, e0, e1, e2, hg, lit64 h.o, lit64 h.f, lit64 h.t]
 rfl
theorem mkHas {a : Mk} (h : MkOk a) : ∃ l, keyOf Tryz.prog 39 (.agg (encMk a).toArray) = some l := by
 obtain ⟨L, hL⟩ := mkLits (d := 317) h
 exact keyOf_of (by kernel_rfl) (by kernel_rfl) (by rw [cellsM]; rfl) hL
theorem fdLits {d : Nat} {a : Fde} (h : FdOk a) : ∃ L, Tryz.prog.keyLits (d + 2) 41 (encFd a) = some L := by
 have hu := Tryz.underlying41
 unfold Program.keyLits
 simp only [hu, cellsF]
 rw [if_pos (by exact ⟨rfl, by simp⟩)]
 have e0 : ((encFd a).drop 0).take (Tryz.prog.cellsOf 5) = [u8 a.sign] := by rw [cells5]; rfl
 have e1 : ((encFd a).drop 1).take (Tryz.prog.cellsOf 5) = [u8 a.seen] := by rw [cells5]; rfl
 refine ⟨[.int .u8 a.sign, .int .u8 a.seen], ?_⟩
 simp only [List.mapM_cons, List.mapM_nil, e0, e1, lit8 h.g, lit8 h.n]
 rfl
theorem fdHas {a : Fde} (h : FdOk a) : ∃ l, keyOf Tryz.prog 41 (.agg (encFd a).toArray) = some l := by
 obtain ⟨L, hL⟩ := fdLits (d := 318) h
 exact keyOf_of (by kernel_rfl) (by kernel_rfl) (by rw [cellsF]; rfl) hL
theorem prLits {d : Nat} {a : Pr} (h : B64 a.1 ∧ B64 a.2) : ∃ L, Tryz.prog.keyLits (d + 2) 48 (encPr a) = some L := by
 have hu := Tryz.underlying48
 unfold Program.keyLits
 simp only [hu, cellsP]
 rw [if_pos (by exact ⟨rfl, by simp⟩)]
 have e0 : ((encPr a).drop 0).take (Tryz.prog.cellsOf 3) = [i64 a.1] := by rw [cellsI]; rfl
 have e1 : ((encPr a).drop 1).take (Tryz.prog.cellsOf 3) = [i64 a.2] := by rw [cellsI]; rfl
 refine ⟨[.int .i64 a.1, .int .i64 a.2], ?_⟩
 simp only [List.mapM_cons, List.mapM_nil, e0, e1, lit64 h.1, lit64 h.2]
 rfl
theorem prHas {a : Pr} (h : B64 a.1 ∧ B64 a.2) : ∃ l, keyOf Tryz.prog 48 (.agg (encPr a).toArray) = some l := by
 obtain ⟨L, hL⟩ := prLits (d := 318) h
 exact keyOf_of (by kernel_rfl) (by kernel_rfl) (by rw [cellsP]; rfl) hL

theorem keySi : KeyS Tryz.prog 30 (fun a : Sg => Value.agg (encSg a).toArray) SgOk where
 law := deep_law_laid laidT (m := 3) (by omega) (by decide +kernel) (by kernel_rfl) (by kernel_rfl)
 typ := ⟨3, by omega, by kernel_rfl⟩
 wide := by kernel_rfl
 grd := by kernel_rfl
 has := fun a h => siHas h
 agg := fun a => ⟨_, rfl⟩
 inj := fun a b h => sg_inj h

theorem keyMk : KeyS Tryz.prog 39 (fun a : Mk => Value.agg (encMk a).toArray) MkOk where
 law := deep_law_laid laidT (m := 3) (by omega) (by decide +kernel) (by kernel_rfl) (by kernel_rfl)
 typ := ⟨3, by omega, by kernel_rfl⟩
 wide := by kernel_rfl
 grd := by kernel_rfl
 has := fun a h => mkHas h
 agg := fun a => ⟨_, rfl⟩
 inj := fun a b h => mk_inj h

theorem keyFd : KeyS Tryz.prog 41 (fun a : Fde => Value.agg (encFd a).toArray) FdOk where
 law := deep_law_laid laidT (m := 3) (by omega) (by decide +kernel) (by kernel_rfl) (by kernel_rfl)
 typ := ⟨3, by omega, by kernel_rfl⟩
 wide := by kernel_rfl
 grd := by kernel_rfl
 has := fun a h => fdHas h
 agg := fun a => ⟨_, rfl⟩
 inj := fun a b h => fd_inj h

theorem keyPr : KeyS Tryz.prog 48 (fun a : Pr => Value.agg (encPr a).toArray) (fun a : Pr => B64 a.1 ∧ B64 a.2) where
 law := deep_law_laid laidT (m := 3) (by omega) (by decide +kernel) (by kernel_rfl) (by kernel_rfl)
 typ := ⟨3, by omega, by kernel_rfl⟩
 wide := by kernel_rfl
 grd := by kernel_rfl
 has := fun a h => prHas h
 agg := fun a => ⟨_, rfl⟩
 inj := fun a b h => pr_inj h

end Go.Proofs

namespace Go.Proofs
open Go Go.Vk Go.Vk.Flow

open Go.Vk.Mark
open Go.Vk.Deed (i64 rng rng_iff owners sumI sumI_cons sumI_snoc)

theorem c_in (a l h : Int) (w : World) :
  Cl Tryz.prog 143 #[Value.int .i64 a, Value.int .i64 l, Value.int .i64 h] w fun v w' => v = .bool (rng a l h) ∧ Le w w' := by
 refine fn_of_run (args := [_, _, _]) 15 Tryz.func143 rfl rfl rfl fun cs => ?_
 have S := Own.start (X := nob) w
 refine r_seq ?_
 refine r_region ?_
 refine l_a rfl ?_
 refine l_nil ?_
 refine r_seq ?_
 refine r_region ?_
 refine l_m rfl ?_
 refine l_m rfl ?_
 refine l_x rfl (x_geq rfl rfl) ?_
 refine l_m rfl ?_
 refine l_splitd (d := 10) rfl (fun hg10 => ?_) (fun hg10 => ?_)
 ·skip
  refine l_m rfl ?_
  refine l_m rfl ?_
  refine l_x rfl (x_leq rfl rfl) ?_
  refine l_x rfl (x_pick_t rfl rfl) ?_
  refine l_a rfl ?_
  refine l_nil ?_
  refine r_ret (rs := [.tmp 6]) [_] Tryz.func143 rfl ⟨rfl, trivial⟩ ?_
  exact ⟨congrArg Value.bool (by unfold rng; first | (apply decE; omega) | (apply decF; omega)), S.le⟩
 refine l_pass rfl ?_
 refine l_pass rfl ?_
 refine l_pass rfl ?_
 refine l_x rfl (x_pick_f rfl rfl) ?_
 refine l_a rfl ?_
 refine l_nil ?_
 refine r_ret (rs := [.tmp 6]) [_] Tryz.func143 rfl ⟨rfl, trivial⟩ ?_
 exact ⟨congrArg Value.bool (by unfold rng; first | (apply decE; omega) | (apply decF; omega)), S.le⟩

theorem c_isOwner (a : Int) (w : World) :
  Cl Tryz.prog 78 #[Value.int .i64 a] w fun v w' => v = .bool (ownB a) ∧ Le w w' := by
 refine fn_of_run (args := [_]) 5 Tryz.func78 rfl rfl rfl fun cs => ?_
 have S := Own.start (X := nob) w
 refine r_seq ?_
 refine r_region ?_
 refine l_a rfl ?_
 refine l_nil ?_
 refine r_seq ?_
 refine r_region ?_
 refine l_m rfl ?_
 refine l_call [] [] [_, _, _] rfl rfl Tryz.call143 rfl (c_in _ _ _ _) ?_
 rintro _ w1 ⟨rfl, hl3⟩
 have S2 := S.step hl3
 refine l_a rfl ?_
 refine l_nil ?_
 refine r_ret (rs := [.tmp 2]) [_] Tryz.func78 rfl ⟨rfl, trivial⟩ ?_
 exact ⟨rfl, S2.le⟩

theorem c_isDay (a : Int) (w : World) :
  Cl Tryz.prog 142 #[Value.int .i64 a] w fun v w' => v = .bool (dayB a) ∧ Le w w' := by
 refine fn_of_run (args := [_]) 5 Tryz.func142 rfl rfl rfl fun cs => ?_
 have S := Own.start (X := nob) w
 refine r_seq ?_
 refine r_region ?_
 refine l_a rfl ?_
 refine l_nil ?_
 refine r_seq ?_
 refine r_region ?_
 refine l_m rfl ?_
 refine l_call [] [] [_, _, _] rfl rfl Tryz.call143 rfl (c_in _ _ _ _) ?_
 rintro _ w1 ⟨rfl, hl3⟩
 have S2 := S.step hl3
 refine l_a rfl ?_
 refine l_nil ?_
 refine r_ret (rs := [.tmp 2]) [_] Tryz.func142 rfl ⟨rfl, trivial⟩ ?_
 exact ⟨rfl, S2.le⟩

theorem c_IndexFuncU (va : Value) (l : List Int) (p : Int → Bool) (kf : Nat) (caps : List Value) (hmx : l.length ≤ 9223372036854775807) (w : World) (hA : Rd EU w va l) (he : ∀ args w, (callFunc kf args).run Tryz.prog w = .ok (.enter kf args) w)
  (hf : ∀ x ∈ l, ∀ w1, Le w w1 → Cl Tryz.prog kf ([Value.int .u8 x] ++ caps).toArray w1 fun v w2 => v = .bool (p x) ∧ Le w1 w2) :
  Cl Tryz.prog 226 #[va, .func (.func kf) #[] caps.toArray] w fun v w' => v = .int .i64 (idx p l) ∧ Le w w' := by
 refine fn_of_run (args := [_, _]) 19 Tryz.func226 rfl rfl rfl fun cs => ?_
 have S := Own.start (X := nob) w
 refine r_seq ?_
 refine r_region ?_
 refine l_a rfl ?_
 refine l_nil ?_
 refine r_seq ?_
 refine r_seq ?_
 refine r_region ?_
 refine l_m rfl ?_
 refine l_x rfl (x_len (hA.le S.le) rfl Tryz.runUnderlying180) ?_
 refine l_m rfl ?_
 refine l_nil ?_
 refine r_block ?_
 refine r_loop (G := Nat) (fun i => l.length - i) (fun i => [(0, va), (1, .func (.func kf) #[] caps.toArray), (8, .int .i64 i), (7, .int .i64 l.length)]) (fun i w' => (i ≤ l.length) ∧ (∀ x ∈ l.take i, p x = false) ∧ Own nob w w' []) 0 ⟨rfl, rfl, rfl, rfl, trivial⟩ ⟨Nat.zero_le _, by simp, S⟩ ?_
 rintro i ρ w1 ⟨hi, hno, S1⟩ IH
 refine r_seq ?_
 refine r_region ?_
 refine l_x rfl (x_lss rfl rfl) ?_
 refine l_nil ?_
 refine r_seq ?_
 refine r_ifd rfl (fun hc9 => ?_) (fun hc9 => ?_)
 ·skip
  obtain ⟨a, ha⟩ : ∃ a, l[i]? = some a := ⟨_, List.getElem?_eq_getElem (by omega)⟩
  refine r_skip ?_
  refine r_seq ?_
  refine r_block ?_
  refine r_seq ?_
  refine r_region ?_
  refine l_m rfl ?_
  refine l_a rfl ?_
  refine l_nil ?_
  refine r_seq ?_
  refine r_region ?_
  refine l_m rfl ?_
  refine l_m rfl ?_
  refine l_m rfl ?_
  refine l_index EU rfl (hA.le S1.le) rfl rfl Tryz.runUnderlying180 Tryz.sizeOf5 (by omega) (by first | assumption | exact List.getElem?_eq_getElem (by omega)) ?_
  intro b1 o2 hat3 row4
  refine l_x rfl (x_load rfl (ld_cell Tryz.isAgg5 (row4 0 _ rfl))) ?_
  refine l_call [] caps ([_] ++ caps) rfl rfl he rfl (hf _ (List.mem_of_getElem? ha) _ S1.le) ?_
  rintro _ w5 ⟨rfl, hl7⟩
  have S6 := S1.step hl7
  refine l_nil ?_
  refine r_if rfl (fun hc16 => ?_) (fun hc16 => ?_)
  ·skip
   refine r_seq ?_
   refine r_region ?_
   refine l_m rfl ?_
   refine l_a rfl ?_
   refine l_nil ?_
   refine r_ret (rs := [.tmp 4]) [_] Tryz.func226 rfl ⟨rfl, trivial⟩ ?_
   exact ⟨congrArg (Value.int .i64) (idx_at ha hc16 hno).symm, S6.le⟩
  have hno' : ∀ x ∈ l.take (i + 1), p x = false := by
   intro x hx
   rw [List.take_add_one, ha] at hx
   rcases List.mem_append.1 hx with h | h
   ·exact hno x h
   simp at h; subst h; exact hc16
  refine r_skip ?_
  refine r_inBlock ?_
  refine r_region ?_
  refine l_x rfl (x_add rfl rfl (by omega)) ?_
  refine l_m rfl ?_
  refine l_nil ?_
  exact IH (i + 1) _ _ (by omega) ⟨rfl, rfl, rfl, rfl, trivial⟩ ⟨by omega, hno', S6⟩
 have hi : i = l.length := by omega
 subst hi
 refine r_exit rfl ?_
 refine r_seq ?_
 refine r_region ?_
 refine l_a rfl ?_
 refine l_nil ?_
 refine r_ret (rs := [.tmp 4]) [_] Tryz.func226 rfl ⟨rfl, trivial⟩ ?_
 exact ⟨congrArg (Value.int .i64) (idx_none (by rwa [List.take_length] at hno)).symm, S1.le⟩

theorem c_ContainsFuncU (va : Value) (l : List Int) (p : Int → Bool) (kf : Nat) (caps : List Value) (hmx : l.length ≤ 9223372036854775807) (w : World) (hA : Rd EU w va l) (he : ∀ args w, (callFunc kf args).run Tryz.prog w = .ok (.enter kf args) w)
  (hf : ∀ x ∈ l, ∀ w1, Le w w1 → Cl Tryz.prog kf ([Value.int .u8 x] ++ caps).toArray w1 fun v w2 => v = .bool (p x) ∧ Le w1 w2) :
  Cl Tryz.prog 194 #[va, .func (.func kf) #[] caps.toArray] w fun v w' => v = .bool (l.any p) ∧ Le w w' := by
 refine fn_of_run (args := [_, _]) 9 Tryz.func194 rfl rfl rfl fun cs => ?_
 have S := Own.start (X := nob) w
 refine r_seq ?_
 refine r_region ?_
 refine l_a rfl ?_
 refine l_nil ?_
 refine r_seq ?_
 refine r_region ?_
 refine l_m rfl ?_
 refine l_m rfl ?_
 refine l_call [] [] [_, _] rfl rfl Tryz.call226 rfl (c_IndexFuncU _ _ p kf caps hmx _ (hA.le S.le) he (fun x hx w1 h1 => hf x hx w1 (S.le.trans h1))) ?_
 rintro _ w1 ⟨rfl, hl3⟩
 have S2 := S.step hl3
 refine l_x rfl (x_geq rfl rfl) ?_
 refine l_a rfl ?_
 refine l_nil ?_
 refine r_ret (rs := [.tmp 4]) [_] Tryz.func194 rfl ⟨rfl, trivial⟩ ?_
 exact ⟨congrArg Value.bool (Bool.eq_iff_iff.2 (by rw [decide_eq_true_iff]; exact idx_ge p _)), S2.le⟩

theorem c_allU1 (a : Int) (p : Int → Bool) (kf : Nat) (caps : List Value) (bf : Nat) (w : World) (hb : Blk w bf [.func (.func kf) #[] caps.toArray] 181) (he : ∀ args w, (callFunc kf args).run Tryz.prog w = .ok (.enter kf args) w)
  (hf : ∀ w1, Le w w1 → Cl Tryz.prog kf ([Value.int .u8 a] ++ caps).toArray w1 fun v w2 => v = .bool (p a) ∧ Le w1 w2) :
  Cl Tryz.prog 195 #[Value.int .u8 a, .pointer (some ⟨bf, 0, none⟩)] w fun v w' => v = .bool (!p a) ∧ Le w w' := by
 refine fn_of_run (args := [_, _]) 8 Tryz.func195 rfl rfl rfl fun cs => ?_
 have S := Own.start (X := nob) w
 refine r_seq ?_
 refine r_region ?_
 refine l_a rfl ?_
 refine l_nil ?_
 refine r_seq ?_
 refine r_region ?_
 refine l_x rfl (x_load rfl (ld_blk (hb.keep S.le id) Tryz.isAgg181 rfl)) ?_
 refine l_m rfl ?_
 refine l_call [] caps ([_] ++ caps) rfl rfl he rfl (hf _ (Le.trans (Le.refl w) S.le)) ?_
 rintro _ w1 ⟨rfl, hl3⟩
 have S2 := S.step hl3
 refine l_x rfl (x_not rfl) ?_
 refine l_a rfl ?_
 refine l_nil ?_
 refine r_ret (rs := [.tmp 3]) [_] Tryz.func195 rfl ⟨rfl, trivial⟩ ?_
 exact ⟨rfl, S2.le⟩

theorem c_allU (va : Value) (l : List Int) (p : Int → Bool) (kf : Nat) (caps : List Value) (hmx : l.length ≤ 9223372036854775807) (w : World) (hA : Rd EU w va l) (he : ∀ args w, (callFunc kf args).run Tryz.prog w = .ok (.enter kf args) w)
  (hf : ∀ x ∈ l, ∀ w1, Le w w1 → Cl Tryz.prog kf ([Value.int .u8 x] ++ caps).toArray w1 fun v w2 => v = .bool (p x) ∧ Le w1 w2) :
  Cl Tryz.prog 149 #[va, .func (.func kf) #[] caps.toArray] w fun v w' => v = .bool (l.all p) ∧ Le w w' := by
 refine fn_of_run (args := [_, _]) 9 Tryz.func149 rfl rfl rfl fun cs => ?_
 have S := Own.start (X := nob) w
 refine r_seq ?_
 refine r_region ?_
 refine l_box S rfl rfl ?_
 intro b4 w1 S2 hl3
 refine l_a rfl ?_
 refine l_nil ?_
 refine r_seq ?_
 refine r_region ?_
 refine l_m rfl ?_
 refine l_x rfl (x_func rfl rfl) ?_
 refine l_call [] [] [_, _] rfl rfl Tryz.call194 rfl (c_ContainsFuncU va l (fun x => !p x) 195 [.pointer (some ⟨b4, 0, none⟩)] hmx _ (hA.le S2.le) Tryz.call195 (fun x hx w1 h1 => c_allU1 x p kf caps _ w1 ((S2.blk 0 rfl).keep h1 id) he (fun w2 h2 => hf x hx w2 (S2.le.trans (h1.trans h2))))) ?_
 rintro _ w5 ⟨rfl, hl7⟩
 have S6 := S2.step hl7
 refine l_x rfl (x_not rfl) ?_
 refine l_a rfl ?_
 refine l_nil ?_
 refine r_ret (rs := [.tmp 4]) [_] Tryz.func149 rfl ⟨rfl, trivial⟩ ?_
 exact ⟨congrArg Value.bool (all_not_any l p), S6.le⟩

theorem c_IndexFuncM (va : Value) (l : List Mk) (p : Mk → Bool) (kf : Nat) (caps : List Value) (hmx : l.length ≤ 9223372036854775807) (w : World) (hA : Rd EMK w va l) (he : ∀ args w, (callFunc kf args).run Tryz.prog w = .ok (.enter kf args) w)
  (hf : ∀ x ∈ l, ∀ w1, Le w w1 → Cl Tryz.prog kf ([Value.agg (encMk x).toArray] ++ caps).toArray w1 fun v w2 => v = .bool (p x) ∧ Le w1 w2) :
  Cl Tryz.prog 151 #[va, .func (.func kf) #[] caps.toArray] w fun v w' => v = .int .i64 (idx p l) ∧ Le w w' := by
 refine fn_of_run (args := [_, _]) 19 Tryz.func151 rfl rfl rfl fun cs => ?_
 have S := Own.start (X := nob) w
 refine r_seq ?_
 refine r_region ?_
 refine l_a rfl ?_
 refine l_nil ?_
 refine r_seq ?_
 refine r_seq ?_
 refine r_region ?_
 refine l_m rfl ?_
 refine l_x rfl (x_len (hA.le S.le) rfl Tryz.runUnderlying22) ?_
 refine l_m rfl ?_
 refine l_nil ?_
 refine r_block ?_
 refine r_loop (G := Nat) (fun i => l.length - i) (fun i => [(0, va), (1, .func (.func kf) #[] caps.toArray), (8, .int .i64 i), (7, .int .i64 l.length)]) (fun i w' => (i ≤ l.length) ∧ (∀ x ∈ l.take i, p x = false) ∧ Own nob w w' []) 0 ⟨rfl, rfl, rfl, rfl, trivial⟩ ⟨Nat.zero_le _, by simp, S⟩ ?_
 rintro i ρ w1 ⟨hi, hno, S1⟩ IH
 refine r_seq ?_
 refine r_region ?_
 refine l_x rfl (x_lss rfl rfl) ?_
 refine l_nil ?_
 refine r_seq ?_
 refine r_ifd rfl (fun hc9 => ?_) (fun hc9 => ?_)
 ·skip
  obtain ⟨a, ha⟩ : ∃ a, l[i]? = some a := ⟨_, List.getElem?_eq_getElem (by omega)⟩
  refine r_skip ?_
  refine r_seq ?_
  refine r_block ?_
  refine r_seq ?_
  refine r_region ?_
  refine l_m rfl ?_
  refine l_a rfl ?_
  refine l_nil ?_
  refine r_seq ?_
  refine r_region ?_
  refine l_m rfl ?_
  refine l_m rfl ?_
  refine l_m rfl ?_
  refine l_index EMK rfl (hA.le S1.le) rfl rfl Tryz.runUnderlying22 Tryz.sizeOf39 (by omega) (by first | assumption | exact List.getElem?_eq_getElem (by omega)) ?_
  intro b1 o2 hat3 row4
  refine l_x rfl (x_load rfl (ld_row Tryz.isAgg39 Tryz.sizeOf39 rfl row4)) ?_
  refine l_call [] caps ([_] ++ caps) rfl rfl he rfl (hf _ (List.mem_of_getElem? ha) _ S1.le) ?_
  rintro _ w5 ⟨rfl, hl7⟩
  have S6 := S1.step hl7
  refine l_nil ?_
  refine r_if rfl (fun hc16 => ?_) (fun hc16 => ?_)
  ·skip
   refine r_seq ?_
   refine r_region ?_
   refine l_m rfl ?_
   refine l_a rfl ?_
   refine l_nil ?_
   refine r_ret (rs := [.tmp 4]) [_] Tryz.func151 rfl ⟨rfl, trivial⟩ ?_
   exact ⟨congrArg (Value.int .i64) (idx_at ha hc16 hno).symm, S6.le⟩
  have hno' : ∀ x ∈ l.take (i + 1), p x = false := by
   intro x hx
   rw [List.take_add_one, ha] at hx
   rcases List.mem_append.1 hx with h | h
   ·exact hno x h
   simp at h; subst h; exact hc16
  refine r_skip ?_
  refine r_inBlock ?_
  refine r_region ?_
  refine l_x rfl (x_add rfl rfl (by omega)) ?_
  refine l_m rfl ?_
  refine l_nil ?_
  exact IH (i + 1) _ _ (by omega) ⟨rfl, rfl, rfl, rfl, trivial⟩ ⟨by omega, hno', S6⟩
 have hi : i = l.length := by omega
 subst hi
 refine r_exit rfl ?_
 refine r_seq ?_
 refine r_region ?_
 refine l_a rfl ?_
 refine l_nil ?_
 refine r_ret (rs := [.tmp 4]) [_] Tryz.func151 rfl ⟨rfl, trivial⟩ ?_
 exact ⟨congrArg (Value.int .i64) (idx_none (by rwa [List.take_length] at hno)).symm, S1.le⟩

theorem c_ContainsFuncM (va : Value) (l : List Mk) (p : Mk → Bool) (kf : Nat) (caps : List Value) (hmx : l.length ≤ 9223372036854775807) (w : World) (hA : Rd EMK w va l) (he : ∀ args w, (callFunc kf args).run Tryz.prog w = .ok (.enter kf args) w)
  (hf : ∀ x ∈ l, ∀ w1, Le w w1 → Cl Tryz.prog kf ([Value.agg (encMk x).toArray] ++ caps).toArray w1 fun v w2 => v = .bool (p x) ∧ Le w1 w2) :
  Cl Tryz.prog 147 #[va, .func (.func kf) #[] caps.toArray] w fun v w' => v = .bool (l.any p) ∧ Le w w' := by
 refine fn_of_run (args := [_, _]) 9 Tryz.func147 rfl rfl rfl fun cs => ?_
 have S := Own.start (X := nob) w
 refine r_seq ?_
 refine r_region ?_
 refine l_a rfl ?_
 refine l_nil ?_
 refine r_seq ?_
 refine r_region ?_
 refine l_m rfl ?_
 refine l_m rfl ?_
 refine l_call [] [] [_, _] rfl rfl Tryz.call151 rfl (c_IndexFuncM _ _ p kf caps hmx _ (hA.le S.le) he (fun x hx w1 h1 => hf x hx w1 (S.le.trans h1))) ?_
 rintro _ w1 ⟨rfl, hl3⟩
 have S2 := S.step hl3
 refine l_x rfl (x_geq rfl rfl) ?_
 refine l_a rfl ?_
 refine l_nil ?_
 refine r_ret (rs := [.tmp 4]) [_] Tryz.func147 rfl ⟨rfl, trivial⟩ ?_
 exact ⟨congrArg Value.bool (Bool.eq_iff_iff.2 (by rw [decide_eq_true_iff]; exact idx_ge p _)), S2.le⟩

theorem c_allM1 (a : Mk) (p : Mk → Bool) (kf : Nat) (caps : List Value) (bf : Nat) (w : World) (hb : Blk w bf [.func (.func kf) #[] caps.toArray] 112) (he : ∀ args w, (callFunc kf args).run Tryz.prog w = .ok (.enter kf args) w)
  (hf : ∀ w1, Le w w1 → Cl Tryz.prog kf ([Value.agg (encMk a).toArray] ++ caps).toArray w1 fun v w2 => v = .bool (p a) ∧ Le w1 w2) :
  Cl Tryz.prog 148 #[Value.agg (encMk a).toArray, .pointer (some ⟨bf, 0, none⟩)] w fun v w' => v = .bool (!p a) ∧ Le w w' := by
 refine fn_of_run (args := [_, _]) 8 Tryz.func148 rfl rfl rfl fun cs => ?_
 have S := Own.start (X := nob) w
 refine r_seq ?_
 refine r_region ?_
 refine l_box S rfl rfl ?_
 intro b4 w1 S2 hl3
 refine l_a rfl ?_
 refine l_nil ?_
 refine r_seq ?_
 refine r_region ?_
 refine l_x rfl (x_load rfl (ld_blk (hb.keep S2.le id) Tryz.isAgg112 rfl)) ?_
 refine l_x rfl (x_load rfl (ld_blks (S2.blk 0 rfl) Tryz.isAgg39 Tryz.sizeOf39 rfl rfl)) ?_
 refine l_call [] caps ([_] ++ caps) rfl rfl he rfl (hf _ (Le.trans (Le.refl w) S2.le)) ?_
 rintro _ w5 ⟨rfl, hl7⟩
 have S6 := S2.step hl7
 refine l_x rfl (x_not rfl) ?_
 refine l_a rfl ?_
 refine l_nil ?_
 refine r_ret (rs := [.tmp 3]) [_] Tryz.func148 rfl ⟨rfl, trivial⟩ ?_
 exact ⟨rfl, S6.le⟩

theorem c_allM (va : Value) (l : List Mk) (p : Mk → Bool) (kf : Nat) (caps : List Value) (hmx : l.length ≤ 9223372036854775807) (w : World) (hA : Rd EMK w va l) (he : ∀ args w, (callFunc kf args).run Tryz.prog w = .ok (.enter kf args) w)
  (hf : ∀ x ∈ l, ∀ w1, Le w w1 → Cl Tryz.prog kf ([Value.agg (encMk x).toArray] ++ caps).toArray w1 fun v w2 => v = .bool (p x) ∧ Le w1 w2) :
  Cl Tryz.prog 74 #[va, .func (.func kf) #[] caps.toArray] w fun v w' => v = .bool (l.all p) ∧ Le w w' := by
 refine fn_of_run (args := [_, _]) 9 Tryz.func74 rfl rfl rfl fun cs => ?_
 have S := Own.start (X := nob) w
 refine r_seq ?_
 refine r_region ?_
 refine l_box S rfl rfl ?_
 intro b4 w1 S2 hl3
 refine l_a rfl ?_
 refine l_nil ?_
 refine r_seq ?_
 refine r_region ?_
 refine l_m rfl ?_
 refine l_x rfl (x_func rfl rfl) ?_
 refine l_call [] [] [_, _] rfl rfl Tryz.call147 rfl (c_ContainsFuncM va l (fun x => !p x) 148 [.pointer (some ⟨b4, 0, none⟩)] hmx _ (hA.le S2.le) Tryz.call148 (fun x hx w1 h1 => c_allM1 x p kf caps _ w1 ((S2.blk 0 rfl).keep h1 id) he (fun w2 h2 => hf x hx w2 (S2.le.trans (h1.trans h2))))) ?_
 rintro _ w5 ⟨rfl, hl7⟩
 have S6 := S2.step hl7
 refine l_x rfl (x_not rfl) ?_
 refine l_a rfl ?_
 refine l_nil ?_
 refine r_ret (rs := [.tmp 4]) [_] Tryz.func74 rfl ⟨rfl, trivial⟩ ?_
 exact ⟨congrArg Value.bool (all_not_any l p), S6.le⟩

theorem c_IndexFuncF (va : Value) (l : List Fde) (p : Fde → Bool) (kf : Nat) (caps : List Value) (hmx : l.length ≤ 9223372036854775807) (w : World) (hA : Rd EFD w va l) (he : ∀ args w, (callFunc kf args).run Tryz.prog w = .ok (.enter kf args) w)
  (hf : ∀ x ∈ l, ∀ w1, Le w w1 → Cl Tryz.prog kf ([Value.agg (encFd x).toArray] ++ caps).toArray w1 fun v w2 => v = .bool (p x) ∧ Le w1 w2) :
  Cl Tryz.prog 196 #[va, .func (.func kf) #[] caps.toArray] w fun v w' => v = .int .i64 (idx p l) ∧ Le w w' := by
 refine fn_of_run (args := [_, _]) 19 Tryz.func196 rfl rfl rfl fun cs => ?_
 have S := Own.start (X := nob) w
 refine r_seq ?_
 refine r_region ?_
 refine l_a rfl ?_
 refine l_nil ?_
 refine r_seq ?_
 refine r_seq ?_
 refine r_region ?_
 refine l_m rfl ?_
 refine l_x rfl (x_len (hA.le S.le) rfl Tryz.runUnderlying23) ?_
 refine l_m rfl ?_
 refine l_nil ?_
 refine r_block ?_
 refine r_loop (G := Nat) (fun i => l.length - i) (fun i => [(0, va), (1, .func (.func kf) #[] caps.toArray), (8, .int .i64 i), (7, .int .i64 l.length)]) (fun i w' => (i ≤ l.length) ∧ (∀ x ∈ l.take i, p x = false) ∧ Own nob w w' []) 0 ⟨rfl, rfl, rfl, rfl, trivial⟩ ⟨Nat.zero_le _, by simp, S⟩ ?_
 rintro i ρ w1 ⟨hi, hno, S1⟩ IH
 refine r_seq ?_
 refine r_region ?_
 refine l_x rfl (x_lss rfl rfl) ?_
 refine l_nil ?_
 refine r_seq ?_
 refine r_ifd rfl (fun hc9 => ?_) (fun hc9 => ?_)
 ·skip
  obtain ⟨a, ha⟩ : ∃ a, l[i]? = some a := ⟨_, List.getElem?_eq_getElem (by omega)⟩
  refine r_skip ?_
  refine r_seq ?_
  refine r_block ?_
  refine r_seq ?_
  refine r_region ?_
  refine l_m rfl ?_
  refine l_a rfl ?_
  refine l_nil ?_
  refine r_seq ?_
  refine r_region ?_
  refine l_m rfl ?_
  refine l_m rfl ?_
  refine l_m rfl ?_
  refine l_index EFD rfl (hA.le S1.le) rfl rfl Tryz.runUnderlying23 Tryz.sizeOf41 (by omega) (by first | assumption | exact List.getElem?_eq_getElem (by omega)) ?_
  intro b1 o2 hat3 row4
  refine l_x rfl (x_load rfl (ld_row Tryz.isAgg41 Tryz.sizeOf41 rfl row4)) ?_
  refine l_call [] caps ([_] ++ caps) rfl rfl he rfl (hf _ (List.mem_of_getElem? ha) _ S1.le) ?_
  rintro _ w5 ⟨rfl, hl7⟩
  have S6 := S1.step hl7
  refine l_nil ?_
  refine r_if rfl (fun hc16 => ?_) (fun hc16 => ?_)
  ·skip
   refine r_seq ?_
   refine r_region ?_
   refine l_m rfl ?_
   refine l_a rfl ?_
   refine l_nil ?_
   refine r_ret (rs := [.tmp 4]) [_] Tryz.func196 rfl ⟨rfl, trivial⟩ ?_
   exact ⟨congrArg (Value.int .i64) (idx_at ha hc16 hno).symm, S6.le⟩
  have hno' : ∀ x ∈ l.take (i + 1), p x = false := by
   intro x hx
   rw [List.take_add_one, ha] at hx
   rcases List.mem_append.1 hx with h | h
   ·exact hno x h
   simp at h; subst h; exact hc16
  refine r_skip ?_
  refine r_inBlock ?_
  refine r_region ?_
  refine l_x rfl (x_add rfl rfl (by omega)) ?_
  refine l_m rfl ?_
  refine l_nil ?_
  exact IH (i + 1) _ _ (by omega) ⟨rfl, rfl, rfl, rfl, trivial⟩ ⟨by omega, hno', S6⟩
 have hi : i = l.length := by omega
 subst hi
 refine r_exit rfl ?_
 refine r_seq ?_
 refine r_region ?_
 refine l_a rfl ?_
 refine l_nil ?_
 refine r_ret (rs := [.tmp 4]) [_] Tryz.func196 rfl ⟨rfl, trivial⟩ ?_
 exact ⟨congrArg (Value.int .i64) (idx_none (by rwa [List.take_length] at hno)).symm, S1.le⟩

theorem c_ContainsFuncF (va : Value) (l : List Fde) (p : Fde → Bool) (kf : Nat) (caps : List Value) (hmx : l.length ≤ 9223372036854775807) (w : World) (hA : Rd EFD w va l) (he : ∀ args w, (callFunc kf args).run Tryz.prog w = .ok (.enter kf args) w)
  (hf : ∀ x ∈ l, ∀ w1, Le w w1 → Cl Tryz.prog kf ([Value.agg (encFd x).toArray] ++ caps).toArray w1 fun v w2 => v = .bool (p x) ∧ Le w1 w2) :
  Cl Tryz.prog 154 #[va, .func (.func kf) #[] caps.toArray] w fun v w' => v = .bool (l.any p) ∧ Le w w' := by
 refine fn_of_run (args := [_, _]) 9 Tryz.func154 rfl rfl rfl fun cs => ?_
 have S := Own.start (X := nob) w
 refine r_seq ?_
 refine r_region ?_
 refine l_a rfl ?_
 refine l_nil ?_
 refine r_seq ?_
 refine r_region ?_
 refine l_m rfl ?_
 refine l_m rfl ?_
 refine l_call [] [] [_, _] rfl rfl Tryz.call196 rfl (c_IndexFuncF _ _ p kf caps hmx _ (hA.le S.le) he (fun x hx w1 h1 => hf x hx w1 (S.le.trans h1))) ?_
 rintro _ w1 ⟨rfl, hl3⟩
 have S2 := S.step hl3
 refine l_x rfl (x_geq rfl rfl) ?_
 refine l_a rfl ?_
 refine l_nil ?_
 refine r_ret (rs := [.tmp 4]) [_] Tryz.func154 rfl ⟨rfl, trivial⟩ ?_
 exact ⟨congrArg Value.bool (Bool.eq_iff_iff.2 (by rw [decide_eq_true_iff]; exact idx_ge p _)), S2.le⟩

theorem c_allF1 (a : Fde) (p : Fde → Bool) (kf : Nat) (caps : List Value) (bf : Nat) (w : World) (hb : Blk w bf [.func (.func kf) #[] caps.toArray] 120) (he : ∀ args w, (callFunc kf args).run Tryz.prog w = .ok (.enter kf args) w)
  (hf : ∀ w1, Le w w1 → Cl Tryz.prog kf ([Value.agg (encFd a).toArray] ++ caps).toArray w1 fun v w2 => v = .bool (p a) ∧ Le w1 w2) :
  Cl Tryz.prog 155 #[Value.agg (encFd a).toArray, .pointer (some ⟨bf, 0, none⟩)] w fun v w' => v = .bool (!p a) ∧ Le w w' := by
 refine fn_of_run (args := [_, _]) 8 Tryz.func155 rfl rfl rfl fun cs => ?_
 have S := Own.start (X := nob) w
 refine r_seq ?_
 refine r_region ?_
 refine l_box S rfl rfl ?_
 intro b4 w1 S2 hl3
 refine l_a rfl ?_
 refine l_nil ?_
 refine r_seq ?_
 refine r_region ?_
 refine l_x rfl (x_load rfl (ld_blk (hb.keep S2.le id) Tryz.isAgg120 rfl)) ?_
 refine l_x rfl (x_load rfl (ld_blks (S2.blk 0 rfl) Tryz.isAgg41 Tryz.sizeOf41 rfl rfl)) ?_
 refine l_call [] caps ([_] ++ caps) rfl rfl he rfl (hf _ (Le.trans (Le.refl w) S2.le)) ?_
 rintro _ w5 ⟨rfl, hl7⟩
 have S6 := S2.step hl7
 refine l_x rfl (x_not rfl) ?_
 refine l_a rfl ?_
 refine l_nil ?_
 refine r_ret (rs := [.tmp 3]) [_] Tryz.func155 rfl ⟨rfl, trivial⟩ ?_
 exact ⟨rfl, S6.le⟩

theorem c_allF (va : Value) (l : List Fde) (p : Fde → Bool) (kf : Nat) (caps : List Value) (hmx : l.length ≤ 9223372036854775807) (w : World) (hA : Rd EFD w va l) (he : ∀ args w, (callFunc kf args).run Tryz.prog w = .ok (.enter kf args) w)
  (hf : ∀ x ∈ l, ∀ w1, Le w w1 → Cl Tryz.prog kf ([Value.agg (encFd x).toArray] ++ caps).toArray w1 fun v w2 => v = .bool (p x) ∧ Le w1 w2) :
  Cl Tryz.prog 84 #[va, .func (.func kf) #[] caps.toArray] w fun v w' => v = .bool (l.all p) ∧ Le w w' := by
 refine fn_of_run (args := [_, _]) 9 Tryz.func84 rfl rfl rfl fun cs => ?_
 have S := Own.start (X := nob) w
 refine r_seq ?_
 refine r_region ?_
 refine l_box S rfl rfl ?_
 intro b4 w1 S2 hl3
 refine l_a rfl ?_
 refine l_nil ?_
 refine r_seq ?_
 refine r_region ?_
 refine l_m rfl ?_
 refine l_x rfl (x_func rfl rfl) ?_
 refine l_call [] [] [_, _] rfl rfl Tryz.call154 rfl (c_ContainsFuncF va l (fun x => !p x) 155 [.pointer (some ⟨b4, 0, none⟩)] hmx _ (hA.le S2.le) Tryz.call155 (fun x hx w1 h1 => c_allF1 x p kf caps _ w1 ((S2.blk 0 rfl).keep h1 id) he (fun w2 h2 => hf x hx w2 (S2.le.trans (h1.trans h2))))) ?_
 rintro _ w5 ⟨rfl, hl7⟩
 have S6 := S2.step hl7
 refine l_x rfl (x_not rfl) ?_
 refine l_a rfl ?_
 refine l_nil ?_
 refine r_ret (rs := [.tmp 4]) [_] Tryz.func84 rfl ⟨rfl, trivial⟩ ?_
 exact ⟨congrArg Value.bool (all_not_any l p), S6.le⟩

theorem c_IndexFuncC (va : Value) (l : List Clm) (p : Clm → Bool) (kf : Nat) (caps : List Value) (hmx : l.length ≤ 9223372036854775807) (w : World) (hA : Rd ECL w va l) (he : ∀ args w, (callFunc kf args).run Tryz.prog w = .ok (.enter kf args) w)
  (hf : ∀ x ∈ l, ∀ w1, Le w w1 → Cl Tryz.prog kf ([Value.agg (encCl x).toArray] ++ caps).toArray w1 fun v w2 => v = .bool (p x) ∧ Le w1 w2) :
  Cl Tryz.prog 166 #[va, .func (.func kf) #[] caps.toArray] w fun v w' => v = .int .i64 (idx p l) ∧ Le w w' := by
 refine fn_of_run (args := [_, _]) 19 Tryz.func166 rfl rfl rfl fun cs => ?_
 have S := Own.start (X := nob) w
 refine r_seq ?_
 refine r_region ?_
 refine l_a rfl ?_
 refine l_nil ?_
 refine r_seq ?_
 refine r_seq ?_
 refine r_region ?_
 refine l_m rfl ?_
 refine l_x rfl (x_len (hA.le S.le) rfl Tryz.runUnderlying51) ?_
 refine l_m rfl ?_
 refine l_nil ?_
 refine r_block ?_
 refine r_loop (G := Nat) (fun i => l.length - i) (fun i => [(0, va), (1, .func (.func kf) #[] caps.toArray), (8, .int .i64 i), (7, .int .i64 l.length)]) (fun i w' => (i ≤ l.length) ∧ (∀ x ∈ l.take i, p x = false) ∧ Own nob w w' []) 0 ⟨rfl, rfl, rfl, rfl, trivial⟩ ⟨Nat.zero_le _, by simp, S⟩ ?_
 rintro i ρ w1 ⟨hi, hno, S1⟩ IH
 refine r_seq ?_
 refine r_region ?_
 refine l_x rfl (x_lss rfl rfl) ?_
 refine l_nil ?_
 refine r_seq ?_
 refine r_ifd rfl (fun hc9 => ?_) (fun hc9 => ?_)
 ·skip
  obtain ⟨a, ha⟩ : ∃ a, l[i]? = some a := ⟨_, List.getElem?_eq_getElem (by omega)⟩
  refine r_skip ?_
  refine r_seq ?_
  refine r_block ?_
  refine r_seq ?_
  refine r_region ?_
  refine l_m rfl ?_
  refine l_a rfl ?_
  refine l_nil ?_
  refine r_seq ?_
  refine r_region ?_
  refine l_m rfl ?_
  refine l_m rfl ?_
  refine l_m rfl ?_
  refine l_index ECL rfl (hA.le S1.le) rfl rfl Tryz.runUnderlying51 Tryz.sizeOf83 (by omega) (by first | assumption | exact List.getElem?_eq_getElem (by omega)) ?_
  intro b1 o2 hat3 row4
  refine l_x rfl (x_load rfl (ld_row Tryz.isAgg83 Tryz.sizeOf83 rfl row4)) ?_
  refine l_call [] caps ([_] ++ caps) rfl rfl he rfl (hf _ (List.mem_of_getElem? ha) _ S1.le) ?_
  rintro _ w5 ⟨rfl, hl7⟩
  have S6 := S1.step hl7
  refine l_nil ?_
  refine r_if rfl (fun hc16 => ?_) (fun hc16 => ?_)
  ·skip
   refine r_seq ?_
   refine r_region ?_
   refine l_m rfl ?_
   refine l_a rfl ?_
   refine l_nil ?_
   refine r_ret (rs := [.tmp 4]) [_] Tryz.func166 rfl ⟨rfl, trivial⟩ ?_
   exact ⟨congrArg (Value.int .i64) (idx_at ha hc16 hno).symm, S6.le⟩
  have hno' : ∀ x ∈ l.take (i + 1), p x = false := by
   intro x hx
   rw [List.take_add_one, ha] at hx
   rcases List.mem_append.1 hx with h | h
   ·exact hno x h
   simp at h; subst h; exact hc16
  refine r_skip ?_
  refine r_inBlock ?_
  refine r_region ?_
  refine l_x rfl (x_add rfl rfl (by omega)) ?_
  refine l_m rfl ?_
  refine l_nil ?_
  exact IH (i + 1) _ _ (by omega) ⟨rfl, rfl, rfl, rfl, trivial⟩ ⟨by omega, hno', S6⟩
 have hi : i = l.length := by omega
 subst hi
 refine r_exit rfl ?_
 refine r_seq ?_
 refine r_region ?_
 refine l_a rfl ?_
 refine l_nil ?_
 refine r_ret (rs := [.tmp 4]) [_] Tryz.func166 rfl ⟨rfl, trivial⟩ ?_
 exact ⟨congrArg (Value.int .i64) (idx_none (by rwa [List.take_length] at hno)).symm, S1.le⟩

theorem c_ContainsFuncC (va : Value) (l : List Clm) (p : Clm → Bool) (kf : Nat) (caps : List Value) (hmx : l.length ≤ 9223372036854775807) (w : World) (hA : Rd ECL w va l) (he : ∀ args w, (callFunc kf args).run Tryz.prog w = .ok (.enter kf args) w)
  (hf : ∀ x ∈ l, ∀ w1, Le w w1 → Cl Tryz.prog kf ([Value.agg (encCl x).toArray] ++ caps).toArray w1 fun v w2 => v = .bool (p x) ∧ Le w1 w2) :
  Cl Tryz.prog 168 #[va, .func (.func kf) #[] caps.toArray] w fun v w' => v = .bool (l.any p) ∧ Le w w' := by
 refine fn_of_run (args := [_, _]) 9 Tryz.func168 rfl rfl rfl fun cs => ?_
 have S := Own.start (X := nob) w
 refine r_seq ?_
 refine r_region ?_
 refine l_a rfl ?_
 refine l_nil ?_
 refine r_seq ?_
 refine r_region ?_
 refine l_m rfl ?_
 refine l_m rfl ?_
 refine l_call [] [] [_, _] rfl rfl Tryz.call166 rfl (c_IndexFuncC _ _ p kf caps hmx _ (hA.le S.le) he (fun x hx w1 h1 => hf x hx w1 (S.le.trans h1))) ?_
 rintro _ w1 ⟨rfl, hl3⟩
 have S2 := S.step hl3
 refine l_x rfl (x_geq rfl rfl) ?_
 refine l_a rfl ?_
 refine l_nil ?_
 refine r_ret (rs := [.tmp 4]) [_] Tryz.func168 rfl ⟨rfl, trivial⟩ ?_
 exact ⟨congrArg Value.bool (Bool.eq_iff_iff.2 (by rw [decide_eq_true_iff]; exact idx_ge p _)), S2.le⟩

theorem c_allC1 (a : Clm) (p : Clm → Bool) (kf : Nat) (caps : List Value) (bf : Nat) (w : World) (hb : Blk w bf [.func (.func kf) #[] caps.toArray] 140) (he : ∀ args w, (callFunc kf args).run Tryz.prog w = .ok (.enter kf args) w)
  (hf : ∀ w1, Le w w1 → Cl Tryz.prog kf ([Value.agg (encCl a).toArray] ++ caps).toArray w1 fun v w2 => v = .bool (p a) ∧ Le w1 w2) :
  Cl Tryz.prog 169 #[Value.agg (encCl a).toArray, .pointer (some ⟨bf, 0, none⟩)] w fun v w' => v = .bool (!p a) ∧ Le w w' := by
 refine fn_of_run (args := [_, _]) 8 Tryz.func169 rfl rfl rfl fun cs => ?_
 have S := Own.start (X := nob) w
 refine r_seq ?_
 refine r_region ?_
 refine l_box S rfl rfl ?_
 intro b4 w1 S2 hl3
 refine l_a rfl ?_
 refine l_nil ?_
 refine r_seq ?_
 refine r_region ?_
 refine l_x rfl (x_load rfl (ld_blk (hb.keep S2.le id) Tryz.isAgg140 rfl)) ?_
 refine l_x rfl (x_load rfl (ld_blks (S2.blk 0 rfl) Tryz.isAgg83 Tryz.sizeOf83 rfl rfl)) ?_
 refine l_call [] caps ([_] ++ caps) rfl rfl he rfl (hf _ (Le.trans (Le.refl w) S2.le)) ?_
 rintro _ w5 ⟨rfl, hl7⟩
 have S6 := S2.step hl7
 refine l_x rfl (x_not rfl) ?_
 refine l_a rfl ?_
 refine l_nil ?_
 refine r_ret (rs := [.tmp 3]) [_] Tryz.func169 rfl ⟨rfl, trivial⟩ ?_
 exact ⟨rfl, S6.le⟩

theorem c_allC (va : Value) (l : List Clm) (p : Clm → Bool) (kf : Nat) (caps : List Value) (hmx : l.length ≤ 9223372036854775807) (w : World) (hA : Rd ECL w va l) (he : ∀ args w, (callFunc kf args).run Tryz.prog w = .ok (.enter kf args) w)
  (hf : ∀ x ∈ l, ∀ w1, Le w w1 → Cl Tryz.prog kf ([Value.agg (encCl x).toArray] ++ caps).toArray w1 fun v w2 => v = .bool (p x) ∧ Le w1 w2) :
  Cl Tryz.prog 100 #[va, .func (.func kf) #[] caps.toArray] w fun v w' => v = .bool (l.all p) ∧ Le w w' := by
 refine fn_of_run (args := [_, _]) 9 Tryz.func100 rfl rfl rfl fun cs => ?_
 have S := Own.start (X := nob) w
 refine r_seq ?_
 refine r_region ?_
 refine l_box S rfl rfl ?_
 intro b4 w1 S2 hl3
 refine l_a rfl ?_
 refine l_nil ?_
 refine r_seq ?_
 refine r_region ?_
 refine l_m rfl ?_
 refine l_x rfl (x_func rfl rfl) ?_
 refine l_call [] [] [_, _] rfl rfl Tryz.call168 rfl (c_ContainsFuncC va l (fun x => !p x) 169 [.pointer (some ⟨b4, 0, none⟩)] hmx _ (hA.le S2.le) Tryz.call169 (fun x hx w1 h1 => c_allC1 x p kf caps _ w1 ((S2.blk 0 rfl).keep h1 id) he (fun w2 h2 => hf x hx w2 (S2.le.trans (h1.trans h2))))) ?_
 rintro _ w5 ⟨rfl, hl7⟩
 have S6 := S2.step hl7
 refine l_x rfl (x_not rfl) ?_
 refine l_a rfl ?_
 refine l_nil ?_
 refine r_ret (rs := [.tmp 4]) [_] Tryz.func100 rfl ⟨rfl, trivial⟩ ?_
 exact ⟨congrArg Value.bool (all_not_any l p), S6.le⟩

theorem c_IndexFuncS (va : Value) (l : List Sg) (p : Sg → Bool) (kf : Nat) (caps : List Value) (hmx : l.length ≤ 9223372036854775807) (w : World) (hA : Rd ESG w va l) (he : ∀ args w, (callFunc kf args).run Tryz.prog w = .ok (.enter kf args) w)
  (hf : ∀ x ∈ l, ∀ w1, Le w w1 → Cl Tryz.prog kf ([Value.agg (encSg x).toArray] ++ caps).toArray w1 fun v w2 => v = .bool (p x) ∧ Le w1 w2) :
  Cl Tryz.prog 230 #[va, .func (.func kf) #[] caps.toArray] w fun v w' => v = .int .i64 (idx p l) ∧ Le w w' := by
 refine fn_of_run (args := [_, _]) 19 Tryz.func230 rfl rfl rfl fun cs => ?_
 have S := Own.start (X := nob) w
 refine r_seq ?_
 refine r_region ?_
 refine l_a rfl ?_
 refine l_nil ?_
 refine r_seq ?_
 refine r_seq ?_
 refine r_region ?_
 refine l_m rfl ?_
 refine l_x rfl (x_len (hA.le S.le) rfl Tryz.runUnderlying50) ?_
 refine l_m rfl ?_
 refine l_nil ?_
 refine r_block ?_
 refine r_loop (G := Nat) (fun i => l.length - i) (fun i => [(0, va), (1, .func (.func kf) #[] caps.toArray), (8, .int .i64 i), (7, .int .i64 l.length)]) (fun i w' => (i ≤ l.length) ∧ (∀ x ∈ l.take i, p x = false) ∧ Own nob w w' []) 0 ⟨rfl, rfl, rfl, rfl, trivial⟩ ⟨Nat.zero_le _, by simp, S⟩ ?_
 rintro i ρ w1 ⟨hi, hno, S1⟩ IH
 refine r_seq ?_
 refine r_region ?_
 refine l_x rfl (x_lss rfl rfl) ?_
 refine l_nil ?_
 refine r_seq ?_
 refine r_ifd rfl (fun hc9 => ?_) (fun hc9 => ?_)
 ·skip
  obtain ⟨a, ha⟩ : ∃ a, l[i]? = some a := ⟨_, List.getElem?_eq_getElem (by omega)⟩
  refine r_skip ?_
  refine r_seq ?_
  refine r_block ?_
  refine r_seq ?_
  refine r_region ?_
  refine l_m rfl ?_
  refine l_a rfl ?_
  refine l_nil ?_
  refine r_seq ?_
  refine r_region ?_
  refine l_m rfl ?_
  refine l_m rfl ?_
  refine l_m rfl ?_
  refine l_index ESG rfl (hA.le S1.le) rfl rfl Tryz.runUnderlying50 Tryz.sizeOf30 (by omega) (by first | assumption | exact List.getElem?_eq_getElem (by omega)) ?_
  intro b1 o2 hat3 row4
  refine l_x rfl (x_load rfl (ld_row Tryz.isAgg30 Tryz.sizeOf30 rfl row4)) ?_
  refine l_call [] caps ([_] ++ caps) rfl rfl he rfl (hf _ (List.mem_of_getElem? ha) _ S1.le) ?_
  rintro _ w5 ⟨rfl, hl7⟩
  have S6 := S1.step hl7
  refine l_nil ?_
  refine r_if rfl (fun hc16 => ?_) (fun hc16 => ?_)
  ·skip
   refine r_seq ?_
   refine r_region ?_
   refine l_m rfl ?_
   refine l_a rfl ?_
   refine l_nil ?_
   refine r_ret (rs := [.tmp 4]) [_] Tryz.func230 rfl ⟨rfl, trivial⟩ ?_
   exact ⟨congrArg (Value.int .i64) (idx_at ha hc16 hno).symm, S6.le⟩
  have hno' : ∀ x ∈ l.take (i + 1), p x = false := by
   intro x hx
   rw [List.take_add_one, ha] at hx
   rcases List.mem_append.1 hx with h | h
   ·exact hno x h
   simp at h; subst h; exact hc16
  refine r_skip ?_
  refine r_inBlock ?_
  refine r_region ?_
  refine l_x rfl (x_add rfl rfl (by omega)) ?_
  refine l_m rfl ?_
  refine l_nil ?_
  exact IH (i + 1) _ _ (by omega) ⟨rfl, rfl, rfl, rfl, trivial⟩ ⟨by omega, hno', S6⟩
 have hi : i = l.length := by omega
 subst hi
 refine r_exit rfl ?_
 refine r_seq ?_
 refine r_region ?_
 refine l_a rfl ?_
 refine l_nil ?_
 refine r_ret (rs := [.tmp 4]) [_] Tryz.func230 rfl ⟨rfl, trivial⟩ ?_
 exact ⟨congrArg (Value.int .i64) (idx_none (by rwa [List.take_length] at hno)).symm, S1.le⟩

theorem c_ContainsFuncS (va : Value) (l : List Sg) (p : Sg → Bool) (kf : Nat) (caps : List Value) (hmx : l.length ≤ 9223372036854775807) (w : World) (hA : Rd ESG w va l) (he : ∀ args w, (callFunc kf args).run Tryz.prog w = .ok (.enter kf args) w)
  (hf : ∀ x ∈ l, ∀ w1, Le w w1 → Cl Tryz.prog kf ([Value.agg (encSg x).toArray] ++ caps).toArray w1 fun v w2 => v = .bool (p x) ∧ Le w1 w2) :
  Cl Tryz.prog 203 #[va, .func (.func kf) #[] caps.toArray] w fun v w' => v = .bool (l.any p) ∧ Le w w' := by
 refine fn_of_run (args := [_, _]) 9 Tryz.func203 rfl rfl rfl fun cs => ?_
 have S := Own.start (X := nob) w
 refine r_seq ?_
 refine r_region ?_
 refine l_a rfl ?_
 refine l_nil ?_
 refine r_seq ?_
 refine r_region ?_
 refine l_m rfl ?_
 refine l_m rfl ?_
 refine l_call [] [] [_, _] rfl rfl Tryz.call230 rfl (c_IndexFuncS _ _ p kf caps hmx _ (hA.le S.le) he (fun x hx w1 h1 => hf x hx w1 (S.le.trans h1))) ?_
 rintro _ w1 ⟨rfl, hl3⟩
 have S2 := S.step hl3
 refine l_x rfl (x_geq rfl rfl) ?_
 refine l_a rfl ?_
 refine l_nil ?_
 refine r_ret (rs := [.tmp 4]) [_] Tryz.func203 rfl ⟨rfl, trivial⟩ ?_
 exact ⟨congrArg Value.bool (Bool.eq_iff_iff.2 (by rw [decide_eq_true_iff]; exact idx_ge p _)), S2.le⟩

theorem c_allS1 (a : Sg) (p : Sg → Bool) (kf : Nat) (caps : List Value) (bf : Nat) (w : World) (hb : Blk w bf [.func (.func kf) #[] caps.toArray] 115) (he : ∀ args w, (callFunc kf args).run Tryz.prog w = .ok (.enter kf args) w)
  (hf : ∀ w1, Le w w1 → Cl Tryz.prog kf ([Value.agg (encSg a).toArray] ++ caps).toArray w1 fun v w2 => v = .bool (p a) ∧ Le w1 w2) :
  Cl Tryz.prog 204 #[Value.agg (encSg a).toArray, .pointer (some ⟨bf, 0, none⟩)] w fun v w' => v = .bool (!p a) ∧ Le w w' := by
 refine fn_of_run (args := [_, _]) 8 Tryz.func204 rfl rfl rfl fun cs => ?_
 have S := Own.start (X := nob) w
 refine r_seq ?_
 refine r_region ?_
 refine l_box S rfl rfl ?_
 intro b4 w1 S2 hl3
 refine l_a rfl ?_
 refine l_nil ?_
 refine r_seq ?_
 refine r_region ?_
 refine l_x rfl (x_load rfl (ld_blk (hb.keep S2.le id) Tryz.isAgg115 rfl)) ?_
 refine l_x rfl (x_load rfl (ld_blks (S2.blk 0 rfl) Tryz.isAgg30 Tryz.sizeOf30 rfl rfl)) ?_
 refine l_call [] caps ([_] ++ caps) rfl rfl he rfl (hf _ (Le.trans (Le.refl w) S2.le)) ?_
 rintro _ w5 ⟨rfl, hl7⟩
 have S6 := S2.step hl7
 refine l_x rfl (x_not rfl) ?_
 refine l_a rfl ?_
 refine l_nil ?_
 refine r_ret (rs := [.tmp 3]) [_] Tryz.func204 rfl ⟨rfl, trivial⟩ ?_
 exact ⟨rfl, S6.le⟩

theorem c_allS (va : Value) (l : List Sg) (p : Sg → Bool) (kf : Nat) (caps : List Value) (hmx : l.length ≤ 9223372036854775807) (w : World) (hA : Rd ESG w va l) (he : ∀ args w, (callFunc kf args).run Tryz.prog w = .ok (.enter kf args) w)
  (hf : ∀ x ∈ l, ∀ w1, Le w w1 → Cl Tryz.prog kf ([Value.agg (encSg x).toArray] ++ caps).toArray w1 fun v w2 => v = .bool (p x) ∧ Le w1 w2) :
  Cl Tryz.prog 179 #[va, .func (.func kf) #[] caps.toArray] w fun v w' => v = .bool (l.all p) ∧ Le w w' := by
 refine fn_of_run (args := [_, _]) 9 Tryz.func179 rfl rfl rfl fun cs => ?_
 have S := Own.start (X := nob) w
 refine r_seq ?_
 refine r_region ?_
 refine l_box S rfl rfl ?_
 intro b4 w1 S2 hl3
 refine l_a rfl ?_
 refine l_nil ?_
 refine r_seq ?_
 refine r_region ?_
 refine l_m rfl ?_
 refine l_x rfl (x_func rfl rfl) ?_
 refine l_call [] [] [_, _] rfl rfl Tryz.call203 rfl (c_ContainsFuncS va l (fun x => !p x) 204 [.pointer (some ⟨b4, 0, none⟩)] hmx _ (hA.le S2.le) Tryz.call204 (fun x hx w1 h1 => c_allS1 x p kf caps _ w1 ((S2.blk 0 rfl).keep h1 id) he (fun w2 h2 => hf x hx w2 (S2.le.trans (h1.trans h2))))) ?_
 rintro _ w5 ⟨rfl, hl7⟩
 have S6 := S2.step hl7
 refine l_x rfl (x_not rfl) ?_
 refine l_a rfl ?_
 refine l_nil ?_
 refine r_ret (rs := [.tmp 4]) [_] Tryz.func179 rfl ⟨rfl, trivial⟩ ?_
 exact ⟨congrArg Value.bool (all_not_any l p), S6.le⟩

end Go.Proofs

namespace Go.Proofs
open Go Go.Vk Go.Vk.Flow

open Go.Vk.Mark
open Go.Vk.Deed (i64 rng rng_iff owners sumI sumI_cons sumI_snoc)

theorem c_isClear1 (a : Int) (w : World) :
  Cl Tryz.prog 170 #[Value.int .u8 a] w fun v w' => v = .bool (decide (a ≤ 4)) ∧ Le w w' := by
 refine fn_of_run (args := [_]) 5 Tryz.func170 rfl rfl rfl fun cs => ?_
 have S := Own.start (X := nob) w
 refine r_seq ?_
 refine r_region ?_
 refine l_a rfl ?_
 refine l_nil ?_
 refine r_seq ?_
 refine r_region ?_
 refine l_m rfl ?_
 refine l_x rfl (x_leq rfl rfl) ?_
 refine l_a rfl ?_
 refine l_nil ?_
 refine r_ret (rs := [.tmp 2]) [_] Tryz.func170 rfl ⟨rfl, trivial⟩ ?_
 exact ⟨rfl, S.le⟩

theorem c_isClear (s : Sg) (w : World) :
  Cl Tryz.prog 102 #[Value.agg (encSg s).toArray] w fun v w' => v = .bool (clearB s) ∧ Le w w' := by
 refine fn_of_run (args := [_]) 5 Tryz.func102 rfl rfl rfl fun cs => ?_
 have S := Own.start (X := nob) w
 refine r_seq ?_
 refine r_region ?_
 refine l_box S rfl rfl ?_
 intro b4 w1 S2 hl3
 refine l_a rfl ?_
 refine l_nil ?_
 refine r_seq ?_
 refine r_region ?_
 refine l_x rfl (x_slarr rfl Tryz.runUnderlying28 Tryz.sizeOf5) ?_
 refine l_call [] [] [_, _] rfl rfl Tryz.call149 rfl (c_allU _ s.l (fun x => decide (x ≤ 4)) 170 [] (Nat.le_of_ble_eq_true rfl) _ (sg_rd (S2.blk 0 rfl)) Tryz.call170 (fun x _ w1 _ => c_isClear1 x w1)) ?_
 rintro _ w5 ⟨rfl, hl7⟩
 have S6 := S2.step hl7
 refine l_a rfl ?_
 refine l_nil ?_
 refine r_ret (rs := [.tmp 2]) [_] Tryz.func102 rfl ⟨rfl, trivial⟩ ?_
 exact ⟨rfl, S6.le⟩

theorem c_isSight1 (a : Int) (w : World) :
  Cl Tryz.prog 150 #[Value.int .u8 a] w fun v w' => v = .bool (decide (a ≤ 4 ∨ a = 9)) ∧ Le w w' := by
 refine fn_of_run (args := [_]) 9 Tryz.func150 rfl rfl rfl fun cs => ?_
 have S := Own.start (X := nob) w
 refine r_seq ?_
 refine r_region ?_
 refine l_a rfl ?_
 refine l_nil ?_
 refine r_seq ?_
 refine r_region ?_
 refine l_m rfl ?_
 refine l_x rfl (x_leq rfl rfl) ?_
 refine l_m rfl ?_
 refine l_splitd (d := 5) rfl (fun hg5 => ?_) (fun hg5 => ?_)
 ·skip
  refine l_pass rfl ?_
  refine l_pass rfl ?_
  refine l_x rfl (x_pick_t rfl rfl) ?_
  refine l_a rfl ?_
  refine l_nil ?_
  refine r_ret (rs := [.tmp 2]) [_] Tryz.func150 rfl ⟨rfl, trivial⟩ ?_
  exact ⟨congrArg Value.bool (by first | (apply decE; omega) | (apply decT; omega) | (apply decF; omega)), S.le⟩
 refine l_m rfl ?_
 refine l_x rfl (x_eql rfl rfl) ?_
 refine l_x rfl (x_pick_f rfl rfl) ?_
 refine l_a rfl ?_
 refine l_nil ?_
 refine r_ret (rs := [.tmp 2]) [_] Tryz.func150 rfl ⟨rfl, trivial⟩ ?_
 exact ⟨congrArg Value.bool (by first | (apply decE; omega) | (apply decT; omega) | (apply decF; omega)), S.le⟩

theorem c_isSight (s : Sg) (w : World) :
  Cl Tryz.prog 79 #[Value.agg (encSg s).toArray] w fun v w' => v = .bool (sightB s) ∧ Le w w' := by
 refine fn_of_run (args := [_]) 6 Tryz.func79 rfl rfl rfl fun cs => ?_
 have S := Own.start (X := nob) w
 refine r_seq ?_
 refine r_region ?_
 refine l_box S rfl rfl ?_
 intro b4 w1 S2 hl3
 refine l_a rfl ?_
 refine l_nil ?_
 refine r_seq ?_
 refine r_region ?_
 refine l_x rfl (x_fieldAddr rfl Tryz.runUnderlying30 rfl Tryz.sizeOf28 (by decide)) ?_
 refine l_x rfl (x_slarr rfl Tryz.runUnderlying28 Tryz.sizeOf5) ?_
 refine l_call [] [] [_, _] rfl rfl Tryz.call149 rfl (c_allU _ s.l (fun x => decide (x ≤ 4 ∨ x = 9)) 150 [] (Nat.le_of_ble_eq_true rfl) _ (sg_rd (S2.blk 0 rfl)) Tryz.call150 (fun x _ w1 _ => c_isSight1 x w1)) ?_
 rintro _ w5 ⟨rfl, hl7⟩
 have S6 := S2.step hl7
 refine l_a rfl ?_
 refine l_nil ?_
 refine r_ret (rs := [.tmp 2]) [_] Tryz.func79 rfl ⟨rfl, trivial⟩ ?_
 exact ⟨rfl, S6.le⟩

theorem c_isMark (a : Mk) (w : World) :
  Cl Tryz.prog 83 #[Value.agg (encMk a).toArray] w fun v w' => v = .bool (markB a) ∧ Le w w' := by
 refine fn_of_run (args := [_]) 28 Tryz.func83 rfl rfl rfl fun cs => ?_
 have S := Own.start (X := nob) w
 refine r_seq ?_
 refine r_region ?_
 refine l_box S rfl rfl ?_
 intro b4 w1 S2 hl3
 refine l_a rfl ?_
 refine l_nil ?_
 refine r_seq ?_
 refine r_region ?_
 refine l_x rfl (x_fieldAddr rfl Tryz.runUnderlying39 rfl Tryz.sizeOf3 (by decide)) ?_
 refine l_x rfl (x_load rfl (ld_blk (S2.blk 0 rfl) Tryz.isAgg3 rfl)) ?_
 refine l_call [] [] [_] rfl rfl Tryz.call78 rfl (c_isOwner _ _) ?_
 rintro _ w5 ⟨rfl, hl7⟩
 have S6 := S2.step hl7
 refine l_m rfl ?_
 refine l_split (d := 6) rfl (fun hg6 => ?_) (fun hg6 => ?_)
 ·skip
  refine l_x rfl (x_fieldAddr rfl Tryz.runUnderlying39 rfl Tryz.sizeOf3 (by decide)) ?_
  refine l_x rfl (x_load rfl (ld_blk (S6.blk 0 rfl) Tryz.isAgg3 rfl)) ?_
  refine l_x rfl (x_geq rfl rfl) ?_
  refine l_x rfl (x_pick_t rfl rfl) ?_
  refine l_m rfl ?_
  refine l_splitd (d := 11) rfl (fun hg11 => ?_) (fun hg11 => ?_)
  ·skip
   refine l_x rfl (x_fieldAddr rfl Tryz.runUnderlying39 rfl Tryz.sizeOf3 (by decide)) ?_
   refine l_x rfl (x_load rfl (ld_blk (S6.blk 0 rfl) Tryz.isAgg3 rfl)) ?_
   refine l_x rfl (x_fieldAddr rfl Tryz.runUnderlying39 rfl Tryz.sizeOf3 (by decide)) ?_
   refine l_x rfl (x_load rfl (ld_blk (S6.blk 0 rfl) Tryz.isAgg3 rfl)) ?_
   refine l_x rfl (x_leq rfl rfl) ?_
   refine l_x rfl (x_pick_t rfl rfl) ?_
   refine l_m rfl ?_
   refine l_splitd (d := 18) rfl (fun hg18 => ?_) (fun hg18 => ?_)
   ·skip
    refine l_x rfl (x_fieldAddr rfl Tryz.runUnderlying39 rfl Tryz.sizeOf3 (by decide)) ?_
    refine l_x rfl (x_load rfl (ld_blk (S6.blk 0 rfl) Tryz.isAgg3 rfl)) ?_
    refine l_x rfl (x_leq rfl rfl) ?_
    refine l_x rfl (x_pick_t rfl rfl) ?_
    refine l_m rfl ?_
    refine l_splitd (d := 23) rfl (fun hg23 => ?_) (fun hg23 => ?_)
    ·skip
     refine l_x rfl (x_fieldAddr rfl Tryz.runUnderlying39 rfl Tryz.sizeOf28 (by decide)) ?_
     refine l_x rfl (x_load rfl (ld_blks (S6.blk 0 rfl) Tryz.isAgg28 Tryz.sizeOf28 rfl rfl)) ?_
     refine l_call [] [] [_] rfl rfl Tryz.call102 rfl (c_isClear _ _) ?_
     rintro _ w8 ⟨rfl, hl10⟩
     have S9 := S6.step hl10
     refine l_x rfl (x_pick_t rfl rfl) ?_
     refine l_a rfl ?_
     refine l_nil ?_
     refine r_ret (rs := [.tmp 2]) [_] Tryz.func83 rfl ⟨rfl, trivial⟩ ?_
     exact ⟨congrArg Value.bool (by unfold markB; simp_all <;> (intros; omega)), S9.le⟩
    refine l_pass rfl ?_
    refine l_pass rfl ?_
    refine l_pass rfl ?_
    refine l_x rfl (x_pick_f rfl rfl) ?_
    refine l_a rfl ?_
    refine l_nil ?_
    refine r_ret (rs := [.tmp 2]) [_] Tryz.func83 rfl ⟨rfl, trivial⟩ ?_
    exact ⟨congrArg Value.bool (by unfold markB; simp_all <;> (intros; omega)), S6.le⟩
   refine l_pass rfl ?_
   refine l_pass rfl ?_
   refine l_pass rfl ?_
   refine l_x rfl (x_pick_f rfl rfl) ?_
   refine l_m rfl ?_
   refine l_pass rfl ?_
   refine l_pass rfl ?_
   refine l_pass rfl ?_
   refine l_x rfl (x_pick_f rfl rfl) ?_
   refine l_a rfl ?_
   refine l_nil ?_
   refine r_ret (rs := [.tmp 2]) [_] Tryz.func83 rfl ⟨rfl, trivial⟩ ?_
   exact ⟨congrArg Value.bool (by unfold markB; simp_all <;> (intros; omega)), S6.le⟩
  refine l_pass rfl ?_
  refine l_pass rfl ?_
  refine l_pass rfl ?_
  refine l_pass rfl ?_
  refine l_pass rfl ?_
  refine l_x rfl (x_pick_f rfl rfl) ?_
  refine l_m rfl ?_
  refine l_pass rfl ?_
  refine l_pass rfl ?_
  refine l_pass rfl ?_
  refine l_x rfl (x_pick_f rfl rfl) ?_
  refine l_m rfl ?_
  refine l_pass rfl ?_
  refine l_pass rfl ?_
  refine l_pass rfl ?_
  refine l_x rfl (x_pick_f rfl rfl) ?_
  refine l_a rfl ?_
  refine l_nil ?_
  refine r_ret (rs := [.tmp 2]) [_] Tryz.func83 rfl ⟨rfl, trivial⟩ ?_
  exact ⟨congrArg Value.bool (by unfold markB; simp_all <;> (intros; omega)), S6.le⟩
 refine l_pass rfl ?_
 refine l_pass rfl ?_
 refine l_pass rfl ?_
 refine l_x rfl (x_pick_f rfl rfl) ?_
 refine l_m rfl ?_
 refine l_pass rfl ?_
 refine l_pass rfl ?_
 refine l_pass rfl ?_
 refine l_pass rfl ?_
 refine l_pass rfl ?_
 refine l_x rfl (x_pick_f rfl rfl) ?_
 refine l_m rfl ?_
 refine l_pass rfl ?_
 refine l_pass rfl ?_
 refine l_pass rfl ?_
 refine l_x rfl (x_pick_f rfl rfl) ?_
 refine l_m rfl ?_
 refine l_pass rfl ?_
 refine l_pass rfl ?_
 refine l_pass rfl ?_
 refine l_x rfl (x_pick_f rfl rfl) ?_
 refine l_a rfl ?_
 refine l_nil ?_
 refine r_ret (rs := [.tmp 2]) [_] Tryz.func83 rfl ⟨rfl, trivial⟩ ?_
 exact ⟨congrArg Value.bool (by unfold markB; simp_all <;> (intros; omega)), S6.le⟩

theorem c_isFade (a : Fde) (hx : FdOk a) (w : World) :
  Cl Tryz.prog 85 #[Value.agg (encFd a).toArray] w fun v w' => v = .bool (fadeB a) ∧ Le w w' := by
 have h1 := hx.g
 have h2 := hx.n
 unfold B8 at h1 h2
 refine fn_of_run (args := [_]) 19 Tryz.func85 rfl rfl rfl fun cs => ?_
 have S := Own.start (X := nob) w
 refine r_seq ?_
 refine r_region ?_
 refine l_box S rfl rfl ?_
 intro b4 w1 S2 hl3
 refine l_a rfl ?_
 refine l_nil ?_
 refine r_seq ?_
 refine r_region ?_
 refine l_x rfl (x_fieldAddr rfl Tryz.runUnderlying41 rfl Tryz.sizeOf5 (by decide)) ?_
 refine l_x rfl (x_load rfl (ld_blk (S2.blk 0 rfl) Tryz.isAgg5 rfl)) ?_
 refine l_x rfl (x_convert rfl Tryz.runUnderlying5 Tryz.runUnderlying3 (i64_in (by omega))) ?_
 refine l_call [] [] [_, _, _] rfl rfl Tryz.call143 rfl (c_in _ _ _ _) ?_
 rintro _ w5 ⟨rfl, hl7⟩
 have S6 := S2.step hl7
 refine l_m rfl ?_
 refine l_split (d := 7) rfl (fun hg7 => ?_) (fun hg7 => ?_)
 ·skip
  refine l_x rfl (x_fieldAddr rfl Tryz.runUnderlying41 rfl Tryz.sizeOf5 (by decide)) ?_
  refine l_x rfl (x_load rfl (ld_blk (S6.blk 0 rfl) Tryz.isAgg5 rfl)) ?_
  refine l_x rfl (x_leq rfl rfl) ?_
  refine l_x rfl (x_pick_t rfl rfl) ?_
  refine l_m rfl ?_
  refine l_splitd (d := 12) rfl (fun hg12 => ?_) (fun hg12 => ?_)
  ·skip
   refine l_x rfl (x_fieldAddr rfl Tryz.runUnderlying41 rfl Tryz.sizeOf5 (by decide)) ?_
   refine l_x rfl (x_load rfl (ld_blk (S6.blk 0 rfl) Tryz.isAgg5 rfl)) ?_
   refine l_x rfl (x_fieldAddr rfl Tryz.runUnderlying41 rfl Tryz.sizeOf5 (by decide)) ?_
   refine l_x rfl (x_load rfl (ld_blk (S6.blk 0 rfl) Tryz.isAgg5 rfl)) ?_
   refine l_x rfl (x_neq rfl rfl) ?_
   refine l_x rfl (x_pick_t rfl rfl) ?_
   refine l_a rfl ?_
   refine l_nil ?_
   refine r_ret (rs := [.tmp 2]) [_] Tryz.func85 rfl ⟨rfl, trivial⟩ ?_
   exact ⟨congrArg Value.bool (by unfold fadeB; simp_all <;> (intros; omega)), S6.le⟩
  refine l_pass rfl ?_
  refine l_pass rfl ?_
  refine l_pass rfl ?_
  refine l_pass rfl ?_
  refine l_pass rfl ?_
  refine l_x rfl (x_pick_f rfl rfl) ?_
  refine l_a rfl ?_
  refine l_nil ?_
  refine r_ret (rs := [.tmp 2]) [_] Tryz.func85 rfl ⟨rfl, trivial⟩ ?_
  exact ⟨congrArg Value.bool (by unfold fadeB; simp_all <;> (intros; omega)), S6.le⟩
 refine l_pass rfl ?_
 refine l_pass rfl ?_
 refine l_pass rfl ?_
 refine l_x rfl (x_pick_f rfl rfl) ?_
 refine l_m rfl ?_
 refine l_pass rfl ?_
 refine l_pass rfl ?_
 refine l_pass rfl ?_
 refine l_pass rfl ?_
 refine l_pass rfl ?_
 refine l_x rfl (x_pick_f rfl rfl) ?_
 refine l_a rfl ?_
 refine l_nil ?_
 refine r_ret (rs := [.tmp 2]) [_] Tryz.func85 rfl ⟨rfl, trivial⟩ ?_
 exact ⟨congrArg Value.bool (by unfold fadeB; simp_all <;> (intros; omega)), S6.le⟩

theorem c_twiceM1 (b a : Mk) (c : Mk → Mk → Bool) (kf : Nat) (caps : List Value) (bf ba : Nat) (w : World) (hb : Blk w bf [.func (.func kf) #[] caps.toArray] 118) (hq : Blk w ba (EMK.enc a) 39) (he : ∀ args w, (callFunc kf args).run Tryz.prog w = .ok (.enter kf args) w)
  (hf : ∀ w1, Le w w1 → Cl Tryz.prog kf ([Value.agg (encMk a).toArray, Value.agg (encMk b).toArray] ++ caps).toArray w1 fun v w2 => v = .bool (c a b) ∧ Le w1 w2) :
  Cl Tryz.prog 157 #[Value.agg (encMk b).toArray, .pointer (some ⟨bf, 0, none⟩), .pointer (some ⟨ba, 0, none⟩)] w fun v w' => v = .bool (c a b) ∧ Le w w' := by
 refine fn_of_run (args := [_, _, _]) 9 Tryz.func157 rfl rfl rfl fun cs => ?_
 have S := Own.start (X := nob) w
 refine r_seq ?_
 refine r_region ?_
 refine l_box S rfl rfl ?_
 intro b4 w1 S2 hl3
 refine l_a rfl ?_
 refine l_nil ?_
 refine r_seq ?_
 refine r_region ?_
 refine l_x rfl (x_load rfl (ld_blk (hb.keep S2.le id) Tryz.isAgg118 rfl)) ?_
 refine l_x rfl (x_load rfl (ld_blks (hq.keep S2.le id) Tryz.isAgg39 Tryz.sizeOf39 rfl rfl)) ?_
 refine l_x rfl (x_load rfl (ld_blks (S2.blk 0 rfl) Tryz.isAgg39 Tryz.sizeOf39 rfl rfl)) ?_
 refine l_call [] caps ([_, _] ++ caps) rfl rfl he rfl (hf _ S2.le) ?_
 rintro _ w5 ⟨rfl, hl7⟩
 have S6 := S2.step hl7
 refine l_a rfl ?_
 refine l_nil ?_
 refine r_ret (rs := [.tmp 4]) [_] Tryz.func157 rfl ⟨rfl, trivial⟩ ?_
 exact ⟨rfl, S6.le⟩

theorem c_twiceM (va : Value) (l : List Mk) (c : Mk → Mk → Bool) (kf : Nat) (caps : List Value) (hmx : l.length ≤ 9223372036854775807) (w : World) (hA : Rd EMK w va l) (he : ∀ args w, (callFunc kf args).run Tryz.prog w = .ok (.enter kf args) w)
  (hf : ∀ x ∈ l, ∀ y ∈ l, ∀ w1, Le w w1 → Cl Tryz.prog kf ([Value.agg (encMk x).toArray, Value.agg (encMk y).toArray] ++ caps).toArray w1 fun v w2 => v = .bool (c x y) ∧ Le w1 w2) :
  Cl Tryz.prog 88 #[va, .func (.func kf) #[] caps.toArray] w fun v w' => v = .bool (twiceB c l) ∧ Le w w' := by
 refine fn_of_run (args := [_, _]) 21 Tryz.func88 rfl rfl rfl fun cs => ?_
 have S := Own.start (X := nob) w
 refine r_seq ?_
 refine r_region ?_
 refine l_box S rfl rfl ?_
 intro b4 w1 S2 hl3
 refine l_a rfl ?_
 refine l_nil ?_
 refine r_seq ?_
 refine r_seq ?_
 refine r_region ?_
 refine l_m rfl ?_
 refine l_x rfl (x_len (hA.le S2.le) rfl Tryz.runUnderlying22) ?_
 refine l_m rfl ?_
 refine l_nil ?_
 refine r_block ?_
 refine r_loop (G := Nat) (fun i => l.length - i) (fun i => [(0, va), (3, .pointer (some ⟨b4, 0, none⟩)), (7, va), (8, Value.int .i64 l.length), (9, Value.int .i64 i)]) (fun i w' => (i ≤ l.length) ∧ (twiceB c (l.take i) = false) ∧ Own nob w w' [blk b4 [.func (.func kf) #[] caps.toArray] 118]) 0 ⟨rfl, rfl, rfl, rfl, rfl, trivial⟩ ⟨Nat.zero_le _, rfl, (S2.take 1)⟩ ?_
 rintro i ρ w1 ⟨hi, hno, S1⟩ IH
 refine r_seq ?_
 refine r_region ?_
 refine l_x rfl (x_lss rfl rfl) ?_
 refine l_nil ?_
 refine r_seq ?_
 refine r_ifd rfl (fun hc10 => ?_) (fun hc10 => ?_)
 ·skip
  obtain ⟨a, ha⟩ : ∃ a, l[i]? = some a := ⟨_, List.getElem?_eq_getElem (by omega)⟩
  refine r_skip ?_
  refine r_seq ?_
  refine r_block ?_
  refine r_seq ?_
  refine r_region ?_
  refine l_m rfl ?_
  refine l_index EMK rfl (hA.le S1.le) rfl rfl Tryz.runUnderlying22 Tryz.sizeOf39 (by omega) ha ?_
  intro b5 o6 hat7 row8
  refine l_x rfl (x_load rfl (ld_row Tryz.isAgg39 Tryz.sizeOf39 rfl row8)) ?_
  refine l_alloc S1 rfl Tryz.zeroValue39 rfl ?_
  intro b12 w9 S10 hl11
  refine l_a rfl ?_
  refine l_stores S10 1 rfl rfl rfl rfl (EMK.one _) Tryz.sizeOf39 (by first | exact Nat.le_refl _ | simp) (splice_all rfl) ?_
  intro w13 S14 hk15
  refine l_nil ?_
  refine r_seq ?_
  refine r_region ?_
  refine l_m rfl ?_
  refine l_m rfl ?_
  refine l_m rfl ?_
  refine l_headm (hA.le S14.le) rfl rfl rfl rfl Tryz.runUnderlying22 Tryz.sizeOf39 (by omega) ?_
  intro v16 ht17
  refine l_x rfl (x_func rfl rfl) ?_
  refine l_call [] [] [_, _] rfl rfl Tryz.call147 rfl (c_ContainsFuncM _ (l.take i) (c a) 157 [.pointer (some ⟨b4, 0, none⟩), .pointer (some ⟨b12, 0, none⟩)] (by rw [List.length_take]; omega) _ ht17 Tryz.call157 (fun x hx w1 h1 => c_twiceM1 x a c kf caps _ _ w1 ((S14.blk 0 rfl).keep h1 id) ((S14.blk 1 rfl).keep h1 id) he (fun w2 h2 => hf a (List.mem_of_getElem? ha) x (List.mem_of_mem_take hx) w2 (S14.le.trans (h1.trans h2))))) ?_
  rintro _ w18 ⟨rfl, hl20⟩
  have S19 := S14.step hl20
  refine l_nil ?_
  refine r_if rfl (fun hc19 => ?_) (fun hc19 => ?_)
  ·skip
   refine r_seq ?_
   refine r_region ?_
   refine l_a rfl ?_
   refine l_nil ?_
   refine r_ret (rs := [.tmp 4]) [_] Tryz.func88 rfl ⟨rfl, trivial⟩ ?_
   exact ⟨congrArg Value.bool (twice_at ha hc19).symm, S19.le⟩
  refine r_skip ?_
  refine r_inBlock ?_
  refine r_region ?_
  refine l_x rfl (x_add rfl rfl (by omega)) ?_
  refine l_m rfl ?_
  refine l_nil ?_
  exact IH (i + 1) _ _ (by omega) ⟨rfl, rfl, rfl, rfl, rfl, trivial⟩ ⟨by omega, twice_step hno ha (by simpa using hc19), (S19.take 1)⟩
 obtain rfl : i = l.length := by omega
 refine r_exit rfl ?_
 refine r_seq ?_
 refine r_region ?_
 refine l_a rfl ?_
 refine l_nil ?_
 refine r_ret (rs := [.tmp 4]) [_] Tryz.func88 rfl ⟨rfl, trivial⟩ ?_
 exact ⟨congrArg Value.bool (by rw [List.take_length] at hno; exact hno.symm), S1.le⟩

theorem c_twiceF1 (b a : Fde) (c : Fde → Fde → Bool) (kf : Nat) (caps : List Value) (bf ba : Nat) (w : World) (hb : Blk w bf [.func (.func kf) #[] caps.toArray] 122) (hq : Blk w ba (EFD.enc a) 41) (he : ∀ args w, (callFunc kf args).run Tryz.prog w = .ok (.enter kf args) w)
  (hf : ∀ w1, Le w w1 → Cl Tryz.prog kf ([Value.agg (encFd a).toArray, Value.agg (encFd b).toArray] ++ caps).toArray w1 fun v w2 => v = .bool (c a b) ∧ Le w1 w2) :
  Cl Tryz.prog 156 #[Value.agg (encFd b).toArray, .pointer (some ⟨bf, 0, none⟩), .pointer (some ⟨ba, 0, none⟩)] w fun v w' => v = .bool (c a b) ∧ Le w w' := by
 refine fn_of_run (args := [_, _, _]) 9 Tryz.func156 rfl rfl rfl fun cs => ?_
 have S := Own.start (X := nob) w
 refine r_seq ?_
 refine r_region ?_
 refine l_box S rfl rfl ?_
 intro b4 w1 S2 hl3
 refine l_a rfl ?_
 refine l_nil ?_
 refine r_seq ?_
 refine r_region ?_
 refine l_x rfl (x_load rfl (ld_blk (hb.keep S2.le id) Tryz.isAgg122 rfl)) ?_
 refine l_x rfl (x_load rfl (ld_blks (hq.keep S2.le id) Tryz.isAgg41 Tryz.sizeOf41 rfl rfl)) ?_
 refine l_x rfl (x_load rfl (ld_blks (S2.blk 0 rfl) Tryz.isAgg41 Tryz.sizeOf41 rfl rfl)) ?_
 refine l_call [] caps ([_, _] ++ caps) rfl rfl he rfl (hf _ S2.le) ?_
 rintro _ w5 ⟨rfl, hl7⟩
 have S6 := S2.step hl7
 refine l_a rfl ?_
 refine l_nil ?_
 refine r_ret (rs := [.tmp 4]) [_] Tryz.func156 rfl ⟨rfl, trivial⟩ ?_
 exact ⟨rfl, S6.le⟩

theorem c_twiceF (va : Value) (l : List Fde) (c : Fde → Fde → Bool) (kf : Nat) (caps : List Value) (hmx : l.length ≤ 9223372036854775807) (w : World) (hA : Rd EFD w va l) (he : ∀ args w, (callFunc kf args).run Tryz.prog w = .ok (.enter kf args) w)
  (hf : ∀ x ∈ l, ∀ y ∈ l, ∀ w1, Le w w1 → Cl Tryz.prog kf ([Value.agg (encFd x).toArray, Value.agg (encFd y).toArray] ++ caps).toArray w1 fun v w2 => v = .bool (c x y) ∧ Le w1 w2) :
  Cl Tryz.prog 86 #[va, .func (.func kf) #[] caps.toArray] w fun v w' => v = .bool (twiceB c l) ∧ Le w w' := by
 refine fn_of_run (args := [_, _]) 21 Tryz.func86 rfl rfl rfl fun cs => ?_
 have S := Own.start (X := nob) w
 refine r_seq ?_
 refine r_region ?_
 refine l_box S rfl rfl ?_
 intro b4 w1 S2 hl3
 refine l_a rfl ?_
 refine l_nil ?_
 refine r_seq ?_
 refine r_seq ?_
 refine r_region ?_
 refine l_m rfl ?_
 refine l_x rfl (x_len (hA.le S2.le) rfl Tryz.runUnderlying23) ?_
 refine l_m rfl ?_
 refine l_nil ?_
 refine r_block ?_
 refine r_loop (G := Nat) (fun i => l.length - i) (fun i => [(0, va), (3, .pointer (some ⟨b4, 0, none⟩)), (7, va), (8, Value.int .i64 l.length), (9, Value.int .i64 i)]) (fun i w' => (i ≤ l.length) ∧ (twiceB c (l.take i) = false) ∧ Own nob w w' [blk b4 [.func (.func kf) #[] caps.toArray] 122]) 0 ⟨rfl, rfl, rfl, rfl, rfl, trivial⟩ ⟨Nat.zero_le _, rfl, (S2.take 1)⟩ ?_
 rintro i ρ w1 ⟨hi, hno, S1⟩ IH
 refine r_seq ?_
 refine r_region ?_
 refine l_x rfl (x_lss rfl rfl) ?_
 refine l_nil ?_
 refine r_seq ?_
 refine r_ifd rfl (fun hc10 => ?_) (fun hc10 => ?_)
 ·skip
  obtain ⟨a, ha⟩ : ∃ a, l[i]? = some a := ⟨_, List.getElem?_eq_getElem (by omega)⟩
  refine r_skip ?_
  refine r_seq ?_
  refine r_block ?_
  refine r_seq ?_
  refine r_region ?_
  refine l_m rfl ?_
  refine l_index EFD rfl (hA.le S1.le) rfl rfl Tryz.runUnderlying23 Tryz.sizeOf41 (by omega) ha ?_
  intro b5 o6 hat7 row8
  refine l_x rfl (x_load rfl (ld_row Tryz.isAgg41 Tryz.sizeOf41 rfl row8)) ?_
  refine l_alloc S1 rfl Tryz.zeroValue41 rfl ?_
  intro b12 w9 S10 hl11
  refine l_a rfl ?_
  refine l_stores S10 1 rfl rfl rfl rfl (EFD.one _) Tryz.sizeOf41 (by first | exact Nat.le_refl _ | simp) (splice_all rfl) ?_
  intro w13 S14 hk15
  refine l_nil ?_
  refine r_seq ?_
  refine r_region ?_
  refine l_m rfl ?_
  refine l_m rfl ?_
  refine l_m rfl ?_
  refine l_headm (hA.le S14.le) rfl rfl rfl rfl Tryz.runUnderlying23 Tryz.sizeOf41 (by omega) ?_
  intro v16 ht17
  refine l_x rfl (x_func rfl rfl) ?_
  refine l_call [] [] [_, _] rfl rfl Tryz.call154 rfl (c_ContainsFuncF _ (l.take i) (c a) 156 [.pointer (some ⟨b4, 0, none⟩), .pointer (some ⟨b12, 0, none⟩)] (by rw [List.length_take]; omega) _ ht17 Tryz.call156 (fun x hx w1 h1 => c_twiceF1 x a c kf caps _ _ w1 ((S14.blk 0 rfl).keep h1 id) ((S14.blk 1 rfl).keep h1 id) he (fun w2 h2 => hf a (List.mem_of_getElem? ha) x (List.mem_of_mem_take hx) w2 (S14.le.trans (h1.trans h2))))) ?_
  rintro _ w18 ⟨rfl, hl20⟩
  have S19 := S14.step hl20
  refine l_nil ?_
  refine r_if rfl (fun hc19 => ?_) (fun hc19 => ?_)
  ·skip
   refine r_seq ?_
   refine r_region ?_
   refine l_a rfl ?_
   refine l_nil ?_
   refine r_ret (rs := [.tmp 4]) [_] Tryz.func86 rfl ⟨rfl, trivial⟩ ?_
   exact ⟨congrArg Value.bool (twice_at ha hc19).symm, S19.le⟩
  refine r_skip ?_
  refine r_inBlock ?_
  refine r_region ?_
  refine l_x rfl (x_add rfl rfl (by omega)) ?_
  refine l_m rfl ?_
  refine l_nil ?_
  exact IH (i + 1) _ _ (by omega) ⟨rfl, rfl, rfl, rfl, rfl, trivial⟩ ⟨by omega, twice_step hno ha (by simpa using hc19), (S19.take 1)⟩
 obtain rfl : i = l.length := by omega
 refine r_exit rfl ?_
 refine r_seq ?_
 refine r_region ?_
 refine l_a rfl ?_
 refine l_nil ?_
 refine r_ret (rs := [.tmp 4]) [_] Tryz.func86 rfl ⟨rfl, trivial⟩ ?_
 exact ⟨congrArg Value.bool (by rw [List.take_length] at hno; exact hno.symm), S1.le⟩

theorem c_twiceC1 (b a : Clm) (c : Clm → Clm → Bool) (kf : Nat) (caps : List Value) (bf ba : Nat) (w : World) (hb : Blk w bf [.func (.func kf) #[] caps.toArray] 222) (hq : Blk w ba (ECL.enc a) 83) (he : ∀ args w, (callFunc kf args).run Tryz.prog w = .ok (.enter kf args) w)
  (hf : ∀ w1, Le w w1 → Cl Tryz.prog kf ([Value.agg (encCl a).toArray, Value.agg (encCl b).toArray] ++ caps).toArray w1 fun v w2 => v = .bool (c a b) ∧ Le w1 w2) :
  Cl Tryz.prog 227 #[Value.agg (encCl b).toArray, .pointer (some ⟨bf, 0, none⟩), .pointer (some ⟨ba, 0, none⟩)] w fun v w' => v = .bool (c a b) ∧ Le w w' := by
 refine fn_of_run (args := [_, _, _]) 9 Tryz.func227 rfl rfl rfl fun cs => ?_
 have S := Own.start (X := nob) w
 refine r_seq ?_
 refine r_region ?_
 refine l_box S rfl rfl ?_
 intro b4 w1 S2 hl3
 refine l_a rfl ?_
 refine l_nil ?_
 refine r_seq ?_
 refine r_region ?_
 refine l_x rfl (x_load rfl (ld_blk (hb.keep S2.le id) Tryz.isAgg222 rfl)) ?_
 refine l_x rfl (x_load rfl (ld_blks (hq.keep S2.le id) Tryz.isAgg83 Tryz.sizeOf83 rfl rfl)) ?_
 refine l_x rfl (x_load rfl (ld_blks (S2.blk 0 rfl) Tryz.isAgg83 Tryz.sizeOf83 rfl rfl)) ?_
 refine l_call [] caps ([_, _] ++ caps) rfl rfl he rfl (hf _ S2.le) ?_
 rintro _ w5 ⟨rfl, hl7⟩
 have S6 := S2.step hl7
 refine l_a rfl ?_
 refine l_nil ?_
 refine r_ret (rs := [.tmp 4]) [_] Tryz.func227 rfl ⟨rfl, trivial⟩ ?_
 exact ⟨rfl, S6.le⟩

theorem c_twiceC (va : Value) (l : List Clm) (c : Clm → Clm → Bool) (kf : Nat) (caps : List Value) (hmx : l.length ≤ 9223372036854775807) (w : World) (hA : Rd ECL w va l) (he : ∀ args w, (callFunc kf args).run Tryz.prog w = .ok (.enter kf args) w)
  (hf : ∀ x ∈ l, ∀ y ∈ l, ∀ w1, Le w w1 → Cl Tryz.prog kf ([Value.agg (encCl x).toArray, Value.agg (encCl y).toArray] ++ caps).toArray w1 fun v w2 => v = .bool (c x y) ∧ Le w1 w2) :
  Cl Tryz.prog 198 #[va, .func (.func kf) #[] caps.toArray] w fun v w' => v = .bool (twiceB c l) ∧ Le w w' := by
 refine fn_of_run (args := [_, _]) 21 Tryz.func198 rfl rfl rfl fun cs => ?_
 have S := Own.start (X := nob) w
 refine r_seq ?_
 refine r_region ?_
 refine l_box S rfl rfl ?_
 intro b4 w1 S2 hl3
 refine l_a rfl ?_
 refine l_nil ?_
 refine r_seq ?_
 refine r_seq ?_
 refine r_region ?_
 refine l_m rfl ?_
 refine l_x rfl (x_len (hA.le S2.le) rfl Tryz.runUnderlying51) ?_
 refine l_m rfl ?_
 refine l_nil ?_
 refine r_block ?_
 refine r_loop (G := Nat) (fun i => l.length - i) (fun i => [(0, va), (3, .pointer (some ⟨b4, 0, none⟩)), (7, va), (8, Value.int .i64 l.length), (9, Value.int .i64 i)]) (fun i w' => (i ≤ l.length) ∧ (twiceB c (l.take i) = false) ∧ Own nob w w' [blk b4 [.func (.func kf) #[] caps.toArray] 222]) 0 ⟨rfl, rfl, rfl, rfl, rfl, trivial⟩ ⟨Nat.zero_le _, rfl, (S2.take 1)⟩ ?_
 rintro i ρ w1 ⟨hi, hno, S1⟩ IH
 refine r_seq ?_
 refine r_region ?_
 refine l_x rfl (x_lss rfl rfl) ?_
 refine l_nil ?_
 refine r_seq ?_
 refine r_ifd rfl (fun hc10 => ?_) (fun hc10 => ?_)
 ·skip
  obtain ⟨a, ha⟩ : ∃ a, l[i]? = some a := ⟨_, List.getElem?_eq_getElem (by omega)⟩
  refine r_skip ?_
  refine r_seq ?_
  refine r_block ?_
  refine r_seq ?_
  refine r_region ?_
  refine l_m rfl ?_
  refine l_index ECL rfl (hA.le S1.le) rfl rfl Tryz.runUnderlying51 Tryz.sizeOf83 (by omega) ha ?_
  intro b5 o6 hat7 row8
  refine l_x rfl (x_load rfl (ld_row Tryz.isAgg83 Tryz.sizeOf83 rfl row8)) ?_
  refine l_alloc S1 rfl Tryz.zeroValue83 rfl ?_
  intro b12 w9 S10 hl11
  refine l_a rfl ?_
  refine l_stores S10 1 rfl rfl rfl rfl (ECL.one _) Tryz.sizeOf83 (by first | exact Nat.le_refl _ | simp) (splice_all rfl) ?_
  intro w13 S14 hk15
  refine l_nil ?_
  refine r_seq ?_
  refine r_region ?_
  refine l_m rfl ?_
  refine l_m rfl ?_
  refine l_m rfl ?_
  refine l_headm (hA.le S14.le) rfl rfl rfl rfl Tryz.runUnderlying51 Tryz.sizeOf83 (by omega) ?_
  intro v16 ht17
  refine l_x rfl (x_func rfl rfl) ?_
  refine l_call [] [] [_, _] rfl rfl Tryz.call168 rfl (c_ContainsFuncC _ (l.take i) (c a) 227 [.pointer (some ⟨b4, 0, none⟩), .pointer (some ⟨b12, 0, none⟩)] (by rw [List.length_take]; omega) _ ht17 Tryz.call227 (fun x hx w1 h1 => c_twiceC1 x a c kf caps _ _ w1 ((S14.blk 0 rfl).keep h1 id) ((S14.blk 1 rfl).keep h1 id) he (fun w2 h2 => hf a (List.mem_of_getElem? ha) x (List.mem_of_mem_take hx) w2 (S14.le.trans (h1.trans h2))))) ?_
  rintro _ w18 ⟨rfl, hl20⟩
  have S19 := S14.step hl20
  refine l_nil ?_
  refine r_if rfl (fun hc19 => ?_) (fun hc19 => ?_)
  ·skip
   refine r_seq ?_
   refine r_region ?_
   refine l_a rfl ?_
   refine l_nil ?_
   refine r_ret (rs := [.tmp 4]) [_] Tryz.func198 rfl ⟨rfl, trivial⟩ ?_
   exact ⟨congrArg Value.bool (twice_at ha hc19).symm, S19.le⟩
  refine r_skip ?_
  refine r_inBlock ?_
  refine r_region ?_
  refine l_x rfl (x_add rfl rfl (by omega)) ?_
  refine l_m rfl ?_
  refine l_nil ?_
  exact IH (i + 1) _ _ (by omega) ⟨rfl, rfl, rfl, rfl, rfl, trivial⟩ ⟨by omega, twice_step hno ha (by simpa using hc19), (S19.take 1)⟩
 obtain rfl : i = l.length := by omega
 refine r_exit rfl ?_
 refine r_seq ?_
 refine r_region ?_
 refine l_a rfl ?_
 refine l_nil ?_
 refine r_ret (rs := [.tmp 4]) [_] Tryz.func198 rfl ⟨rfl, trivial⟩ ?_
 exact ⟨congrArg Value.bool (by rw [List.take_length] at hno; exact hno.symm), S1.le⟩

end Go.Proofs

namespace Go.Proofs
open Go Go.Vk Go.Vk.Flow

open Go.Vk.Mark
open Go.Vk.Deed (i64 rng rng_iff owners sumI sumI_cons sumI_snoc)

theorem c_Check1 (x y : Mk) (hx : MkOk x) (hy : MkOk y) (w : World) :
  Cl Tryz.prog 82 #[Value.agg (encMk x).toArray, Value.agg (encMk y).toArray] w fun v w' => v = .bool (clash x y) ∧ Le w w' := by
 refine fn_of_run (args := [_, _]) 31 Tryz.func82 rfl rfl rfl fun cs => ?_
 have S := Own.start (X := nob) w
 refine r_seq ?_
 refine r_region ?_
 refine l_box S rfl rfl ?_
 intro b4 w1 S2 hl3
 refine l_box S2 rfl rfl ?_
 intro b8 w5 S6 hl7
 refine l_a rfl ?_
 refine l_nil ?_
 refine r_seq ?_
 refine r_region ?_
 refine l_x rfl (x_fieldAddr rfl Tryz.runUnderlying39 rfl Tryz.sizeOf3 (by decide)) ?_
 refine l_x rfl (x_load rfl (ld_blk (S6.blk 0 rfl) Tryz.isAgg3 rfl)) ?_
 refine l_x rfl (x_fieldAddr rfl Tryz.runUnderlying39 rfl Tryz.sizeOf3 (by decide)) ?_
 refine l_x rfl (x_load rfl (ld_blk (S6.blk 1 rfl) Tryz.isAgg3 rfl)) ?_
 refine l_x rfl (x_leq rfl rfl) ?_
 refine l_m rfl ?_
 refine l_splitd (d := 10) rfl (fun hg10 => ?_) (fun hg10 => ?_)
 ·skip
  refine l_x rfl (x_fieldAddr rfl Tryz.runUnderlying39 rfl Tryz.sizeOf3 (by decide)) ?_
  refine l_x rfl (x_load rfl (ld_blk (S6.blk 1 rfl) Tryz.isAgg3 rfl)) ?_
  refine l_x rfl (x_fieldAddr rfl Tryz.runUnderlying39 rfl Tryz.sizeOf3 (by decide)) ?_
  refine l_x rfl (x_load rfl (ld_blk (S6.blk 0 rfl) Tryz.isAgg3 rfl)) ?_
  refine l_x rfl (x_leq rfl rfl) ?_
  refine l_x rfl (x_pick_t rfl rfl) ?_
  refine l_m rfl ?_
  refine l_splitd (d := 17) rfl (fun hg17 => ?_) (fun hg17 => ?_)
  ·skip
   refine l_x rfl (x_fieldAddr rfl Tryz.runUnderlying39 rfl Tryz.sizeOf3 (by decide)) ?_
   refine l_x rfl (x_load rfl (ld_blk (S6.blk 0 rfl) Tryz.isAgg3 rfl)) ?_
   refine l_x rfl (x_fieldAddr rfl Tryz.runUnderlying39 rfl Tryz.sizeOf3 (by decide)) ?_
   refine l_x rfl (x_load rfl (ld_blk (S6.blk 1 rfl) Tryz.isAgg3 rfl)) ?_
   refine l_x rfl (x_eql rfl rfl) ?_
   refine l_m rfl ?_
   refine l_splitd (d := 23) rfl (fun hg23 => ?_) (fun hg23 => ?_)
   ·skip
    refine l_pass rfl ?_
    refine l_pass rfl ?_
    refine l_pass rfl ?_
    refine l_pass rfl ?_
    refine l_pass rfl ?_
    refine l_x rfl (x_pick_t rfl rfl) ?_
    refine l_x rfl (x_pick_t rfl rfl) ?_
    refine l_a rfl ?_
    refine l_nil ?_
    refine r_ret (rs := [.tmp 4]) [_] Tryz.func82 rfl ⟨rfl, trivial⟩ ?_
    exact ⟨congrArg Value.bool (by unfold clash; first | (apply decE; first | omega | simp_all) | (apply decT; simp_all) | (apply decF; simp_all <;> (intros; omega))), S6.le⟩
   refine l_x rfl (x_fieldAddr rfl Tryz.runUnderlying39 rfl Tryz.sizeOf28 (by decide)) ?_
   refine l_x rfl (x_load rfl (ld_blks (S6.blk 0 rfl) Tryz.isAgg28 Tryz.sizeOf28 rfl rfl)) ?_
   refine l_x rfl (x_fieldAddr rfl Tryz.runUnderlying39 rfl Tryz.sizeOf28 (by decide)) ?_
   refine l_x rfl (x_load rfl (ld_blks (S6.blk 1 rfl) Tryz.isAgg28 Tryz.sizeOf28 rfl rfl)) ?_
   refine l_x rfl (x_eqS keySg hx.s hy.s rfl rfl) ?_
   refine l_x rfl (x_pick_f rfl rfl) ?_
   refine l_x rfl (x_pick_t rfl rfl) ?_
   refine l_a rfl ?_
   refine l_nil ?_
   refine r_ret (rs := [.tmp 4]) [_] Tryz.func82 rfl ⟨rfl, trivial⟩ ?_
   exact ⟨congrArg Value.bool (by unfold clash; first | (apply decE; first | omega | simp_all) | (apply decT; simp_all) | (apply decF; simp_all <;> (intros; omega))), S6.le⟩
  refine l_pass rfl ?_
  refine l_pass rfl ?_
  refine l_pass rfl ?_
  refine l_pass rfl ?_
  refine l_pass rfl ?_
  refine l_pass rfl ?_
  refine l_pass rfl ?_
  refine l_pass rfl ?_
  refine l_pass rfl ?_
  refine l_pass rfl ?_
  refine l_pass rfl ?_
  refine l_pass rfl ?_
  refine l_x rfl (x_pick_f rfl rfl) ?_
  refine l_a rfl ?_
  refine l_nil ?_
  refine r_ret (rs := [.tmp 4]) [_] Tryz.func82 rfl ⟨rfl, trivial⟩ ?_
  exact ⟨congrArg Value.bool (by unfold clash; first | (apply decE; first | omega | simp_all) | (apply decT; simp_all) | (apply decF; simp_all <;> (intros; omega))), S6.le⟩
 refine l_pass rfl ?_
 refine l_pass rfl ?_
 refine l_pass rfl ?_
 refine l_pass rfl ?_
 refine l_pass rfl ?_
 refine l_x rfl (x_pick_f rfl rfl) ?_
 refine l_m rfl ?_
 refine l_pass rfl ?_
 refine l_pass rfl ?_
 refine l_pass rfl ?_
 refine l_pass rfl ?_
 refine l_pass rfl ?_
 refine l_pass rfl ?_
 refine l_pass rfl ?_
 refine l_pass rfl ?_
 refine l_pass rfl ?_
 refine l_pass rfl ?_
 refine l_pass rfl ?_
 refine l_pass rfl ?_
 refine l_x rfl (x_pick_f rfl rfl) ?_
 refine l_a rfl ?_
 refine l_nil ?_
 refine r_ret (rs := [.tmp 4]) [_] Tryz.func82 rfl ⟨rfl, trivial⟩ ?_
 exact ⟨congrArg Value.bool (by unfold clash; first | (apply decE; first | omega | simp_all) | (apply decT; simp_all) | (apply decF; simp_all <;> (intros; omega))), S6.le⟩

theorem c_Check2 (x y : Fde) (hx : FdOk x) (hy : FdOk y) (w : World) :
  Cl Tryz.prog 87 #[Value.agg (encFd x).toArray, Value.agg (encFd y).toArray] w fun v w' => v = .bool (decide (x = y)) ∧ Le w w' := by
 refine fn_of_run (args := [_, _]) 8 Tryz.func87 rfl rfl rfl fun cs => ?_
 have S := Own.start (X := nob) w
 refine r_seq ?_
 refine r_region ?_
 refine l_box S rfl rfl ?_
 intro b4 w1 S2 hl3
 refine l_box S2 rfl rfl ?_
 intro b8 w5 S6 hl7
 refine l_a rfl ?_
 refine l_nil ?_
 refine r_seq ?_
 refine r_region ?_
 refine l_x rfl (x_load rfl (ld_blks (S6.blk 0 rfl) Tryz.isAgg41 Tryz.sizeOf41 rfl rfl)) ?_
 refine l_x rfl (x_load rfl (ld_blks (S6.blk 1 rfl) Tryz.isAgg41 Tryz.sizeOf41 rfl rfl)) ?_
 refine l_x rfl (x_eqS keyFd hx hy rfl rfl) ?_
 refine l_a rfl ?_
 refine l_nil ?_
 refine r_ret (rs := [.tmp 4]) [_] Tryz.func87 rfl ⟨rfl, trivial⟩ ?_
 exact ⟨rfl, S6.le⟩

theorem c_CheckSmits (b : Sm) (vm vf : Value) (w : World) (hB : SmR 39 41 w vm vf b) :
  Cl Tryz.prog 24 #[.agg #[vm, vf]] w fun v w' => v = .int .i64 (checkS b) ∧ Le w w' := by
 refine fn_of_run (args := [_]) 36 Tryz.func24 rfl rfl rfl fun cs => ?_
 have S := Own.start (X := nob) w
 refine r_seq ?_
 refine r_region ?_
 refine l_box S rfl rfl ?_
 intro b4 w1 S2 hl3
 refine l_a rfl ?_
 refine l_nil ?_
 refine r_seq ?_
 refine r_region ?_
 refine l_a rfl ?_
 refine l_nil ?_
 refine r_seq ?_
 refine r_block ?_
 refine r_seq ?_
 refine r_region ?_
 refine l_x rfl (x_fieldAddr rfl Tryz.runUnderlying25 rfl Tryz.sizeOf22 (by decide)) ?_
 refine l_x rfl (x_load rfl (ld_blk (S2.blk 0 rfl) Tryz.isAgg22 rfl)) ?_
 refine l_x rfl (x_len (hB.m.le S2.le) rfl Tryz.runUnderlying22) ?_
 refine l_x rfl (x_gtr rfl rfl) ?_
 refine l_m rfl ?_
 refine l_splitd (d := 9) rfl (fun hg9 => ?_) (fun hg9 => ?_)
 ·skip
  refine l_pass rfl ?_
  refine l_pass rfl ?_
  refine l_pass rfl ?_
  refine l_pass rfl ?_
  refine l_x rfl (x_pick_t rfl rfl) ?_
  refine l_a rfl ?_
  refine l_nil ?_
  refine r_true rfl ?_
  refine r_seq ?_
  refine r_region ?_
  refine l_a rfl ?_
  refine l_nil ?_
  refine r_ret (rs := [.tmp 2]) [_] Tryz.func24 rfl ⟨rfl, trivial⟩ ?_
  exact ⟨congrArg (Value.int .i64) (by first | exact checkS_2 (by omega) | exact checkS_1 (by omega) (by first | exact .inl (by simpa using hg20) | exact .inr (by simpa using hc15)) | exact checkS_6 (by omega) (by simpa using hg20) (by simpa using hc15) (by first | exact .inl (by simpa using hg30) | exact .inr (by simpa using hc26)) | exact checkS_0 (by omega) (by simpa using hg20) (by simpa using hc15) (by simpa using hg30) (by simpa using hc26)), S2.le⟩
 refine l_x rfl (x_fieldAddr rfl Tryz.runUnderlying25 rfl Tryz.sizeOf23 (by decide)) ?_
 refine l_x rfl (x_load rfl (ld_blk (S2.blk 0 rfl) Tryz.isAgg23 rfl)) ?_
 refine l_x rfl (x_len (hB.f.le S2.le) rfl Tryz.runUnderlying23) ?_
 refine l_x rfl (x_gtr rfl rfl) ?_
 refine l_x rfl (x_pick_f rfl rfl) ?_
 refine l_a rfl ?_
 refine l_nil ?_
 refine r_ifd rfl (fun hc4 => ?_) (fun hc4 => ?_)
 ·skip
  refine r_seq ?_
  refine r_region ?_
  refine l_a rfl ?_
  refine l_nil ?_
  refine r_ret (rs := [.tmp 2]) [_] Tryz.func24 rfl ⟨rfl, trivial⟩ ?_
  exact ⟨congrArg (Value.int .i64) (by first | exact checkS_2 (by omega) | exact checkS_1 (by omega) (by first | exact .inl (by simpa using hg20) | exact .inr (by simpa using hc15)) | exact checkS_6 (by omega) (by simpa using hg20) (by simpa using hc15) (by first | exact .inl (by simpa using hg30) | exact .inr (by simpa using hc26)) | exact checkS_0 (by omega) (by simpa using hg20) (by simpa using hc15) (by simpa using hg30) (by simpa using hc26)), S2.le⟩
 refine r_seq ?_
 refine r_region ?_
 refine l_x rfl (x_fieldAddr rfl Tryz.runUnderlying25 rfl Tryz.sizeOf22 (by decide)) ?_
 refine l_x rfl (x_load rfl (ld_blk (S2.blk 0 rfl) Tryz.isAgg22 rfl)) ?_
 refine l_call [] [] [_, _] rfl rfl Tryz.call74 rfl (c_allM _ b.marks markB 83 [] hB.lm _ (hB.m.le S2.le) Tryz.call83 (fun x _ w1 _ => c_isMark x w1)) ?_
 rintro _ w5 ⟨rfl, hl7⟩
 have S6 := S2.step hl7
 refine l_x rfl (x_not rfl) ?_
 refine l_m rfl ?_
 refine l_split (d := 20) rfl (fun hg20 => ?_) (fun hg20 => ?_)
 ·skip
  refine l_pass rfl ?_
  refine l_pass rfl ?_
  refine l_pass rfl ?_
  refine l_pass rfl ?_
  refine l_x rfl (x_pick_t rfl rfl) ?_
  refine l_a rfl ?_
  refine l_nil ?_
  refine r_true rfl ?_
  refine r_seq ?_
  refine r_region ?_
  refine l_a rfl ?_
  refine l_nil ?_
  refine r_ret (rs := [.tmp 2]) [_] Tryz.func24 rfl ⟨rfl, trivial⟩ ?_
  exact ⟨congrArg (Value.int .i64) (by first | exact checkS_2 (by omega) | exact checkS_1 (by omega) (by first | exact .inl (by simpa using hg20) | exact .inr (by simpa using hc15)) | exact checkS_6 (by omega) (by simpa using hg20) (by simpa using hc15) (by first | exact .inl (by simpa using hg30) | exact .inr (by simpa using hc26)) | exact checkS_0 (by omega) (by simpa using hg20) (by simpa using hc15) (by simpa using hg30) (by simpa using hc26)), S6.le⟩
 refine l_x rfl (x_fieldAddr rfl Tryz.runUnderlying25 rfl Tryz.sizeOf23 (by decide)) ?_
 refine l_x rfl (x_load rfl (ld_blk (S6.blk 0 rfl) Tryz.isAgg23 rfl)) ?_
 refine l_call [] [] [_, _] rfl rfl Tryz.call84 rfl (c_allF _ b.fades fadeB 85 [] hB.lf _ (hB.f.le S6.le) Tryz.call85 (fun x hx w1 _ => c_isFade x (hB.of x hx) w1)) ?_
 rintro _ w8 ⟨rfl, hl10⟩
 have S9 := S6.step hl10
 refine l_x rfl (x_not rfl) ?_
 refine l_x rfl (x_pick_f rfl rfl) ?_
 refine l_a rfl ?_
 refine l_nil ?_
 refine r_if rfl (fun hc15 => ?_) (fun hc15 => ?_)
 ·skip
  refine r_seq ?_
  refine r_region ?_
  refine l_a rfl ?_
  refine l_nil ?_
  refine r_ret (rs := [.tmp 2]) [_] Tryz.func24 rfl ⟨rfl, trivial⟩ ?_
  exact ⟨congrArg (Value.int .i64) (by first | exact checkS_2 (by omega) | exact checkS_1 (by omega) (by first | exact .inl (by simpa using hg20) | exact .inr (by simpa using hc15)) | exact checkS_6 (by omega) (by simpa using hg20) (by simpa using hc15) (by first | exact .inl (by simpa using hg30) | exact .inr (by simpa using hc26)) | exact checkS_0 (by omega) (by simpa using hg20) (by simpa using hc15) (by simpa using hg30) (by simpa using hc26)), S9.le⟩
 refine r_seq ?_
 refine r_region ?_
 refine l_x rfl (x_fieldAddr rfl Tryz.runUnderlying25 rfl Tryz.sizeOf23 (by decide)) ?_
 refine l_x rfl (x_load rfl (ld_blk (S9.blk 0 rfl) Tryz.isAgg23 rfl)) ?_
 refine l_call [] [] [_, _] rfl rfl Tryz.call86 rfl (c_twiceF _ b.fades (fun x y : Fde => decide (x = y)) 87 [] hB.lf _ (hB.f.le S9.le) Tryz.call87 (fun x hx y hy w1 _ => c_Check2 x y (hB.of x hx) (hB.of y hy) w1)) ?_
 rintro _ w11 ⟨rfl, hl13⟩
 have S12 := S9.step hl13
 refine l_m rfl ?_
 refine l_split (d := 30) rfl (fun hg30 => ?_) (fun hg30 => ?_)
 ·skip
  refine l_pass rfl ?_
  refine l_pass rfl ?_
  refine l_pass rfl ?_
  refine l_pass rfl ?_
  refine l_x rfl (x_pick_t rfl rfl) ?_
  refine l_a rfl ?_
  refine l_nil ?_
  refine r_true rfl ?_
  refine r_seq ?_
  refine r_region ?_
  refine l_a rfl ?_
  refine l_nil ?_
  refine r_ret (rs := [.tmp 2]) [_] Tryz.func24 rfl ⟨rfl, trivial⟩ ?_
  exact ⟨congrArg (Value.int .i64) (by first | exact checkS_2 (by omega) | exact checkS_1 (by omega) (by first | exact .inl (by simpa using hg20) | exact .inr (by simpa using hc15)) | exact checkS_6 (by omega) (by simpa using hg20) (by simpa using hc15) (by first | exact .inl (by simpa using hg30) | exact .inr (by simpa using hc26)) | exact checkS_0 (by omega) (by simpa using hg20) (by simpa using hc15) (by simpa using hg30) (by simpa using hc26)), S12.le⟩
 refine l_x rfl (x_fieldAddr rfl Tryz.runUnderlying25 rfl Tryz.sizeOf22 (by decide)) ?_
 refine l_x rfl (x_load rfl (ld_blk (S12.blk 0 rfl) Tryz.isAgg22 rfl)) ?_
 refine l_m rfl ?_
 refine l_call [] [] [_, _] rfl rfl Tryz.call88 rfl (c_twiceM _ b.marks clash 82 [] hB.lm _ (hB.m.le S12.le) Tryz.call82 (fun x hx y hy w1 _ => c_Check1 x y (hB.om x hx) (hB.om y hy) w1)) ?_
 rintro _ w14 ⟨rfl, hl16⟩
 have S15 := S12.step hl16
 refine l_x rfl (x_pick_f rfl rfl) ?_
 refine l_a rfl ?_
 refine l_nil ?_
 refine r_if rfl (fun hc26 => ?_) (fun hc26 => ?_)
 ·skip
  refine r_seq ?_
  refine r_region ?_
  refine l_a rfl ?_
  refine l_nil ?_
  refine r_ret (rs := [.tmp 2]) [_] Tryz.func24 rfl ⟨rfl, trivial⟩ ?_
  exact ⟨congrArg (Value.int .i64) (by first | exact checkS_2 (by omega) | exact checkS_1 (by omega) (by first | exact .inl (by simpa using hg20) | exact .inr (by simpa using hc15)) | exact checkS_6 (by omega) (by simpa using hg20) (by simpa using hc15) (by first | exact .inl (by simpa using hg30) | exact .inr (by simpa using hc26)) | exact checkS_0 (by omega) (by simpa using hg20) (by simpa using hc15) (by simpa using hg30) (by simpa using hc26)), S15.le⟩
 refine r_skip ?_
 refine r_inBlock ?_
 refine r_seq ?_
 refine r_region ?_
 refine l_a rfl ?_
 refine l_nil ?_
 refine r_ret (rs := [.tmp 2]) [_] Tryz.func24 rfl ⟨rfl, trivial⟩ ?_
 exact ⟨congrArg (Value.int .i64) (by first | exact checkS_2 (by omega) | exact checkS_1 (by omega) (by first | exact .inl (by simpa using hg20) | exact .inr (by simpa using hc15)) | exact checkS_6 (by omega) (by simpa using hg20) (by simpa using hc15) (by first | exact .inl (by simpa using hg30) | exact .inr (by simpa using hc26)) | exact checkS_0 (by omega) (by simpa using hg20) (by simpa using hc15) (by simpa using hg30) (by simpa using hc26)), S15.le⟩

end Go.Proofs

namespace Go.Proofs
open Go Go.Vk Go.Vk.Flow

open Go.Vk.Mark
open Go.Vk.Deed (i64 rng rng_iff owners sumI sumI_cons sumI_snoc)

abbrev BdP := @BdR 39 108
theorem keyA : KeyA Tryz.prog 28 kSg := ⟨keySg.law, fun k => sgHas k.2, fun a b h => Subtype.ext (sg_inj h)⟩

set_option maxHeartbeats 1000000 in
theorem c_may (bb : Nat) (vm : Value) (mm : Nat) (g : KSg → Option Int) (b : Sm) (day : Int) (p : Nat) (x z : Int) (hx : 0 ≤ x ∧ x ≤ 4) (hv : (0 ≤ z ∧ z ≤ 4) ∨ z = 9) (w : World) (hR : BdP w bb vm mm g b day) :
  Cl Tryz.prog 153 #[.pointer (some ⟨bb, 0, none⟩), Value.int .i64 p, Value.int .u8 x, Value.int .u8 z] w fun v w' => v = .bool (mayB b p x z) ∧ Le w w' := by
 refine fn_of_run (args := [_, _, _, _]) 30 Tryz.func153 rfl rfl rfl fun cs => ?_
 have S := Own.start (X := nob) w
 refine r_seq ?_
 refine r_region ?_
 refine l_a rfl ?_
 refine l_nil ?_
 refine r_seq ?_
 refine r_region ?_
 refine l_m rfl ?_
 refine l_x rfl (x_eql rfl rfl) ?_
 refine l_m rfl ?_
 refine l_splitd (d := 11) rfl (fun hg11 => ?_) (fun hg11 => ?_)
 ·skip
  refine l_pass rfl ?_
  refine l_pass rfl ?_
  refine l_pass rfl ?_
  refine l_x rfl (x_pick_t rfl rfl) ?_
  refine l_m rfl ?_
  refine l_pass rfl ?_
  refine l_pass rfl ?_
  refine l_pass rfl ?_
  refine l_pass rfl ?_
  refine l_pass rfl ?_
  refine l_pass rfl ?_
  refine l_pass rfl ?_
  refine l_pass rfl ?_
  refine l_pass rfl ?_
  refine l_pass rfl ?_
  refine l_pass rfl ?_
  refine l_pass rfl ?_
  refine l_x rfl (x_pick_t rfl rfl) ?_
  refine l_a rfl ?_
  refine l_nil ?_
  refine r_ret (rs := [.tmp 8]) [_] Tryz.func153 rfl ⟨rfl, trivial⟩ ?_
  exact ⟨congrArg Value.bool (may_worn hg11).symm, S.le⟩
 refine l_m rfl ?_
 refine l_m rfl ?_
 refine l_x rfl (x_eql rfl rfl) ?_
 refine l_x rfl (x_pick_f rfl rfl) ?_
 refine l_m rfl ?_
 refine l_splitd (d := 16) rfl (fun hg16 => ?_) (fun hg16 => ?_)
 ·skip
  refine l_pass rfl ?_
  refine l_pass rfl ?_
  refine l_pass rfl ?_
  refine l_pass rfl ?_
  refine l_pass rfl ?_
  refine l_pass rfl ?_
  refine l_pass rfl ?_
  refine l_pass rfl ?_
  refine l_pass rfl ?_
  refine l_pass rfl ?_
  refine l_pass rfl ?_
  refine l_pass rfl ?_
  refine l_x rfl (x_pick_t rfl rfl) ?_
  refine l_a rfl ?_
  refine l_nil ?_
  refine r_ret (rs := [.tmp 8]) [_] Tryz.func153 rfl ⟨rfl, trivial⟩ ?_
  exact ⟨congrArg Value.bool (may_self hg16).symm, S.le⟩
 refine l_m rfl ?_
 refine l_x rfl (x_geq rfl rfl) ?_
 refine l_m rfl ?_
 refine l_splitd (d := 19) rfl (fun hg19 => ?_) (fun hg19 => ?_)
 ·skip
  refine l_m rfl ?_
  refine l_m rfl ?_
  refine l_m rfl ?_
  refine l_x rfl (x_nilCheck rfl) ?_
  refine l_x rfl (x_fieldAddr rfl Tryz.runUnderlying108 rfl Tryz.sizeOf106 (by decide)) ?_
  refine l_x rfl (x_indexAddr_arrayk rfl rfl Tryz.runUnderlying106 Tryz.sizeOf105 (by omega)) ?_
  refine l_x rfl (x_indexAddr_arrayk rfl rfl Tryz.runUnderlying105 Tryz.sizeOf4 (by have := hv.resolve_right hg11; omega)) ?_
  refine l_x rfl (x_load rfl (ld_blk (hR.blk.keep S.le id) Tryz.isAgg4 (bd_get (by omega) (by have := hv.resolve_right hg11; omega)))) ?_
  refine l_x rfl (x_pick_t rfl rfl) ?_
  refine l_x rfl (x_pick_f rfl rfl) ?_
  refine l_a rfl ?_
  refine l_nil ?_
  refine r_ret (rs := [.tmp 8]) [_] Tryz.func153 rfl ⟨rfl, trivial⟩ ?_
  exact ⟨congrArg Value.bool (may_seen hg11 hg16 hg19 hx (hv.resolve_right hg11)), S.le⟩
 refine l_pass rfl ?_
 refine l_pass rfl ?_
 refine l_pass rfl ?_
 refine l_pass rfl ?_
 refine l_pass rfl ?_
 refine l_pass rfl ?_
 refine l_pass rfl ?_
 refine l_pass rfl ?_
 refine l_x rfl (x_pick_f rfl rfl) ?_
 refine l_x rfl (x_pick_f rfl rfl) ?_
 refine l_a rfl ?_
 refine l_nil ?_
 refine r_ret (rs := [.tmp 8]) [_] Tryz.func153 rfl ⟨rfl, trivial⟩ ?_
 exact ⟨congrArg Value.bool (may_ear hg11 hg16 hg19).symm, S.le⟩

theorem c_fits (bb : Nat) (vm : Value) (mm : Nat) (g : KSg → Option Int) (b : Sm) (day : Int) (t s : Sg) (ht : Sig t) (hs : Clr s) (w : World) (hR : BdP w bb vm mm g b day) :
  Cl Tryz.prog 81 #[.pointer (some ⟨bb, 0, none⟩), Value.agg (encSg t).toArray, Value.agg (encSg s).toArray] w fun v w' => v = .bool (shows b s t) ∧ Le w w' := by
 refine fn_of_run (args := [_, _, _]) 24 Tryz.func81 rfl rfl rfl fun cs => ?_
 have S := Own.start (X := nob) w
 refine r_seq ?_
 refine r_region ?_
 refine l_box S rfl rfl ?_
 intro b4 w1 S2 hl3
 refine l_box S2 rfl rfl ?_
 intro b8 w5 S6 hl7
 refine l_a rfl ?_
 refine l_nil ?_
 refine r_seq ?_
 refine r_seq ?_
 refine r_region ?_
 refine l_x rfl (x_load rfl (ld_blks (S6.blk 1 rfl) Tryz.isAgg28 Tryz.sizeOf28 rfl rfl)) ?_
 refine l_m rfl ?_
 refine l_nil ?_
 refine r_block ?_
 refine r_loop (G := Nat) (fun i => 6 - i) (fun i => [(0, .pointer (some ⟨bb, 0, none⟩)), (4, .pointer (some ⟨b4, 0, none⟩)), (9, Value.agg (encSg s).toArray), (10, Value.int .i64 i)]) (fun i w' => (i ≤ 6) ∧ (∀ q, q < i → mayB b q (s.get q) (t.get q) = true) ∧ Own nob w w' [blk b4 (encSg t) 30]) 0 ⟨rfl, rfl, rfl, rfl, trivial⟩ ⟨Nat.zero_le _, fun q h => absurd h (Nat.not_lt_zero q), (S6.take 1)⟩ ?_
 rintro i ρ w1 ⟨hi, hy, S1⟩ IH
 refine r_seq ?_
 refine r_region ?_
 refine l_x rfl (x_lss rfl rfl) ?_
 refine l_nil ?_
 refine r_seq ?_
 refine r_ifd rfl (fun hc11 => ?_) (fun hc11 => ?_)
 ·skip
  refine r_skip ?_
  refine r_seq ?_
  refine r_block ?_
  refine r_seq ?_
  refine r_region ?_
  refine l_m rfl ?_
  refine l_x rfl (x_part rfl rfl Tryz.runUnderlying28 Tryz.sizeOf5 Tryz.isAgg5 (by omega) (sg_part (i := i) (by omega))) ?_
  refine l_a rfl ?_
  refine l_a rfl ?_
  refine l_nil ?_
  refine r_seq ?_
  refine r_region ?_
  refine l_m rfl ?_
  refine l_m rfl ?_
  refine l_m rfl ?_
  refine l_m rfl ?_
  refine l_x rfl (x_fieldAddr rfl Tryz.runUnderlying30 rfl Tryz.sizeOf28 (by decide)) ?_
  refine l_x rfl (x_indexAddr_array rfl rfl Tryz.runUnderlying28 Tryz.sizeOf5 (by omega)) ?_
  refine l_x rfl (x_load rfl (ld_blk (S1.blk 0 rfl) Tryz.isAgg5 (sgb_get (by omega)))) ?_
  refine l_call [] [] [_, _, _, _] rfl rfl Tryz.call153 rfl (c_may bb vm mm g b day i (s.get i) (t.get i) (hs.at (by omega)) (ht.at (by omega)) _ (hR.le S1.le)) ?_
  rintro _ w9 ⟨rfl, hl11⟩
  have S10 := S1.step hl11
  refine l_x rfl (x_not rfl) ?_
  refine l_nil ?_
  refine r_if rfl (fun hc22 => ?_) (fun hc22 => ?_)
  ·skip
   refine r_seq ?_
   refine r_region ?_
   refine l_a rfl ?_
   refine l_nil ?_
   refine r_ret (rs := [.tmp 6]) [_] Tryz.func81 rfl ⟨rfl, trivial⟩ ?_
   exact ⟨congrArg Value.bool (shows_no (i := i) (by omega) (by simpa using hc22)).symm, S10.le⟩
  refine r_skip ?_
  refine r_inBlock ?_
  refine r_region ?_
  refine l_x rfl (x_add rfl rfl (by omega)) ?_
  refine l_m rfl ?_
  refine l_nil ?_
  exact IH (i + 1) _ _ (by omega) ⟨rfl, rfl, rfl, rfl, trivial⟩ ⟨by omega, shows_step hy (by simpa using hc22), (S10.take 1)⟩
 obtain rfl : i = 6 := by omega
 refine r_exit rfl ?_
 refine r_seq ?_
 refine r_region ?_
 refine l_a rfl ?_
 refine l_nil ?_
 refine r_ret (rs := [.tmp 6]) [_] Tryz.func81 rfl ⟨rfl, trivial⟩ ?_
 exact ⟨congrArg Value.bool (shows_yes hy).symm, S1.le⟩

set_option maxHeartbeats 1000000 in
theorem c_common (bb : Nat) (vm : Value) (mm : Nat) (g : KSg → Option Int) (b : Sm) (day : Int) (p : Nat) (x y : Int) (hx : 0 ≤ x ∧ x ≤ 4) (hy : 0 ≤ y ∧ y ≤ 4) (w : World) (hR : BdP w bb vm mm g b day) :
  Cl Tryz.prog 103 #[.pointer (some ⟨bb, 0, none⟩), Value.int .i64 p, Value.int .u8 x, Value.int .u8 y] w fun v w' => v = .tuple #[Value.int .u8 ((common b p x y).getD 0), .bool (common b p x y).isSome] ∧ Le w w' := by
 refine fn_of_run (args := [_, _, _, _]) 28 Tryz.func103 rfl rfl rfl fun cs => ?_
 have S := Own.start (X := nob) w
 refine r_seq ?_
 refine r_region ?_
 refine l_a rfl ?_
 refine l_a rfl ?_
 refine l_nil ?_
 refine r_seq ?_
 refine r_seq ?_
 refine r_region ?_
 refine l_m rfl ?_
 refine l_nil ?_
 refine r_block ?_
 refine r_loop (G := Nat) (fun u => 5 - u) (fun u => [(0, .pointer (some ⟨bb, 0, none⟩)), (1, Value.int .i64 p), (2, Value.int .u8 x), (3, Value.int .u8 y), (11, Value.int .u8 (u : Int))]) (fun u w' => (u ≤ 5) ∧ (∀ q : Nat, q < u → (fun q : Nat => mayB b p x q && mayB b p y q) q = false) ∧ Own nob w w' []) 0 ⟨rfl, rfl, rfl, rfl, rfl, trivial⟩ ⟨Nat.zero_le _, fun q h => absurd h (Nat.not_lt_zero q), S⟩ ?_
 rintro u ρ w1 ⟨hu, hn, S1⟩ IH
 refine r_seq ?_
 refine r_region ?_
 refine l_x rfl (x_lss rfl rfl) ?_
 refine l_nil ?_
 refine r_seq ?_
 refine r_ifd rfl (fun hc12 => ?_) (fun hc12 => ?_)
 ·skip
  refine r_skip ?_
  refine r_seq ?_
  refine r_block ?_
  refine r_seq ?_
  refine r_region ?_
  refine l_m rfl ?_
  refine l_a rfl ?_
  refine l_nil ?_
  refine r_seq ?_
  refine r_region ?_
  refine l_m rfl ?_
  refine l_m rfl ?_
  refine l_m rfl ?_
  refine l_m rfl ?_
  refine l_call [] [] [_, _, _, _] rfl rfl Tryz.call153 rfl (c_may bb vm mm g b day p x (u : Int) hx (.inl (by omega)) _ (hR.le S1.le)) ?_
  rintro _ w1 ⟨rfl, hl3⟩
  have S2 := S1.step hl3
  refine l_m rfl ?_
  refine l_split (d := 19) rfl (fun hg19 => ?_) (fun hg19 => ?_)
  ·skip
   refine l_m rfl ?_
   refine l_m rfl ?_
   refine l_m rfl ?_
   refine l_m rfl ?_
   refine l_call [] [] [_, _, _, _] rfl rfl Tryz.call153 rfl (c_may bb vm mm g b day p y (u : Int) hy (.inl (by omega)) _ (hR.le S2.le)) ?_
   rintro _ w4 ⟨rfl, hl6⟩
   have S5 := S2.step hl6
   refine l_x rfl (x_pick_t rfl rfl) ?_
   refine l_nil ?_
   refine r_if rfl (fun hc25 => ?_) (fun hc25 => ?_)
   ·skip
    refine r_seq ?_
    refine r_region ?_
    refine l_m rfl ?_
    refine l_a rfl ?_
    refine l_a rfl ?_
    refine l_nil ?_
    refine r_ret (rs := [.tmp 8, .tmp 9]) [_, _] Tryz.func103 rfl ⟨rfl, rfl, trivial⟩ ?_
    exact ⟨by rw [common_at (by omega) (by simp_all) hn]; rfl, S5.le⟩
   refine r_skip ?_
   refine r_inBlock ?_
   refine r_region ?_
   refine l_x rfl (x_add8 rfl rfl (by omega)) ?_
   refine l_m rfl ?_
   refine l_nil ?_
   exact IH (u + 1) _ _ (by omega) ⟨rfl, rfl, rfl, rfl, rfl, trivial⟩ ⟨by omega, no_step (P := (fun q : Nat => mayB b p x q && mayB b p y q)) hn (by simp_all), S5⟩
  refine l_pass rfl ?_
  refine l_pass rfl ?_
  refine l_pass rfl ?_
  refine l_pass rfl ?_
  refine l_pass rfl ?_
  refine l_x rfl (x_pick_f rfl rfl) ?_
  refine l_nil ?_
  refine r_false rfl ?_
  refine r_skip ?_
  refine r_inBlock ?_
  refine r_region ?_
  refine l_x rfl (x_add8 rfl rfl (by omega)) ?_
  refine l_m rfl ?_
  refine l_nil ?_
  exact IH (u + 1) _ _ (by omega) ⟨rfl, rfl, rfl, rfl, rfl, trivial⟩ ⟨by omega, no_step (P := (fun q : Nat => mayB b p x q && mayB b p y q)) hn (by simp_all), S2⟩
 obtain rfl : u = 5 := by omega
 refine r_exit rfl ?_
 refine r_seq ?_
 refine r_region ?_
 refine l_a rfl ?_
 refine l_a rfl ?_
 refine l_nil ?_
 refine r_ret (rs := [.tmp 8, .tmp 9]) [_, _] Tryz.func103 rfl ⟨rfl, rfl, trivial⟩ ?_
 exact ⟨by rw [common_no hn]; rfl, S1.le⟩

set_option maxHeartbeats 2000000 in
theorem c_alike (bb : Nat) (vm : Value) (mm : Nat) (g : KSg → Option Int) (b : Sm) (day : Int) (x y : Sg) (hx : Clr x) (hy : Clr y) (w : World) (hR : BdP w bb vm mm g b day) :
  Cl Tryz.prog 76 #[.pointer (some ⟨bb, 0, none⟩), Value.agg (encSg x).toArray, Value.agg (encSg y).toArray] w fun v w' => v = .tuple #[Value.agg (encSg ((alike b x y).getD zeroSg)).toArray, .bool (alike b x y).isSome] ∧ Le w w' := by
 refine fn_of_run (args := [_, _, _]) 36 Tryz.func76 rfl rfl rfl fun cs => ?_
 have S := Own.start (X := nob) w
 refine r_seq ?_
 refine r_region ?_
 refine l_box S rfl rfl ?_
 intro b4 w1 S2 hl3
 refine l_box S2 rfl rfl ?_
 intro b8 w5 S6 hl7
 refine l_alloc S6 rfl Tryz.zeroValue30 rfl ?_
 intro b12 w9 S10 hl11
 refine l_a rfl ?_
 refine l_nil ?_
 refine r_seq ?_
 refine r_region ?_
 refine l_alloc S10 rfl Tryz.zeroValue30 rfl ?_
 intro b16 w13 S14 hl15
 refine l_nil ?_
 refine r_seq ?_
 refine r_seq ?_
 refine r_region ?_
 refine l_m rfl ?_
 refine l_nil ?_
 refine r_block ?_
 refine r_loop (G := Nat) (fun i => 6 - i) (fun i => [(0, .pointer (some ⟨bb, 0, none⟩)), (4, .pointer (some ⟨b4, 0, none⟩)), (5, .pointer (some ⟨b8, 0, none⟩)), (6, .pointer (some ⟨b12, 0, none⟩)), (8, .pointer (some ⟨b16, 0, none⟩)), (12, Value.int .i64 i)]) (fun i w' => (i ≤ 6) ∧ (∀ q, q < i → (commonAt b x y q).isSome = true) ∧ Own nob w w' [blk b4 (encSg x) 28, blk b8 (encSg y) 28, blk b12 (encSg zeroSg) 30, blk b16 (encSg (alikeP b x y i)) 30]) 0 ⟨rfl, rfl, rfl, rfl, rfl, rfl, trivial⟩ ⟨Nat.zero_le _, fun q h => absurd h (Nat.not_lt_zero q), S14⟩ ?_
 rintro i ρ w1 ⟨hi, hc, S1⟩ IH
 refine r_seq ?_
 refine r_region ?_
 refine l_x rfl (x_lss rfl rfl) ?_
 refine l_nil ?_
 refine r_seq ?_
 refine r_ifd rfl (fun hc13 => ?_) (fun hc13 => ?_)
 ·skip
  refine r_skip ?_
  refine r_seq ?_
  refine r_block ?_
  refine r_seq ?_
  refine r_region ?_
  refine l_m rfl ?_
  refine l_a rfl ?_
  refine l_nil ?_
  refine r_seq ?_
  refine r_drawR 14 Tryz.mixed (by kernel_rfl) ?_
  refine w_x rfl (fun w1 h1 => x_mv rfl) ?_
  refine w_x rfl (fun w1 h1 => x_mv rfl) ?_
  refine w_x rfl (fun w1 h1 => x_mv rfl) ?_
  refine w_x rfl (fun w1 h1 => x_indexAddr_array rfl rfl Tryz.runUnderlying28 Tryz.sizeOf5 (by omega)) ?_
  refine w_x rfl (fun w1 h1 => x_load rfl (ld_blk ((S1.step h1).blk 0 rfl) Tryz.isAgg5 (sgb_get (by omega)))) ?_
  refine w_x rfl (fun w1 h1 => x_mv rfl) ?_
  refine w_x rfl (fun w1 h1 => x_indexAddr_array rfl rfl Tryz.runUnderlying28 Tryz.sizeOf5 (by omega)) ?_
  refine w_x rfl (fun w1 h1 => x_load rfl (ld_blk ((S1.step h1).blk 1 rfl) Tryz.isAgg5 (sgb_get (by omega)))) ?_
  refine wd_call [] [] [_, _, _, _] rfl rfl Tryz.call103 rfl (fun w1 h1 => c_common bb vm mm g b day i (x.get i) (y.get i) (hx.at (by omega)) (hy.at (by omega)) _ (hR.le (S1.step h1).le)) ?_
  refine w_x rfl (fun w1 h1 => x_mv rfl) ?_
  refine w_x rfl (fun w1 h1 => x_extract rfl rfl) ?_
  refine w_x rfl (fun w1 h1 => x_extract rfl rfl) ?_
  refine w_x rfl (fun w1 h1 => x_as rfl) ?_
  refine w_x rfl (fun w1 h1 => x_as rfl) ?_
  refine w_nil ?_
  intro w17 hl18
  have S19 := S1.step hl18
  refine l_nil ?_
  refine r_seq ?_
  refine r_seq ?_
  refine r_region ?_
  refine l_m rfl ?_
  refine l_x rfl (x_not rfl) ?_
  refine l_nil ?_
  refine r_if rfl (fun hc28 => ?_) (fun hc28 => ?_)
  ·skip
   refine r_seq ?_
   refine r_region ?_
   refine l_x rfl (x_buildS (out := [_, _, _, _, _, _]) (ss := [6]) Tryz.zeroValue30 rfl Tryz.runUnderlying30 ⟨Tryz.sizeOf28, trivial⟩ fill_nil) ?_
   refine l_stores (vs := [_, _, _, _, _, _]) S19 2 rfl rfl rfl rfl (ones_cons rfl (ones_cons rfl (ones_cons rfl (ones_cons rfl (ones_cons rfl (ones_cons rfl ones_nil)))))) Tryz.sizeOf30 (by first | exact Nat.le_refl _ | simp) (splice_all rfl) ?_
   intro w20 S21 hk22
   refine l_a rfl ?_
   refine l_nil ?_
   refine r_ret (rs := [.cell 6 30, .tmp 7]) [_, _] Tryz.func76 rfl ⟨⟨_, rfl, (ld_blks (S21.blk 2 rfl) Tryz.isAgg30 Tryz.sizeOf30 rfl rfl)⟩, rfl, trivial⟩ ?_
   exact ⟨by rw [alike_no (i := i) (by omega) (by simpa [commonAt] using hc28)]; rfl, S21.le⟩
  refine r_skip ?_
  refine r_region ?_
  refine l_m rfl ?_
  refine l_m rfl ?_
  refine l_x rfl (x_fieldAddr rfl Tryz.runUnderlying30 rfl Tryz.sizeOf28 (by decide)) ?_
  refine l_x rfl (x_indexAddr_array rfl rfl Tryz.runUnderlying28 Tryz.sizeOf5 (by omega)) ?_
  refine l_storeq S19 3 rfl rfl rfl rfl rfl Tryz.sizeOf5 (sgb_lt (by omega)) (sgb_set (by omega)) ?_
  intro w23 S24 hk25
  refine l_nil ?_
  refine r_inBlock ?_
  refine r_region ?_
  refine l_x rfl (x_add rfl rfl (by omega)) ?_
  refine l_m rfl ?_
  refine l_nil ?_
  exact IH (i + 1) _ _ (by omega) ⟨rfl, rfl, rfl, rfl, rfl, rfl, trivial⟩ ⟨by omega, yes_step (P := fun q => (commonAt b x y q).isSome) hc (by simpa [commonAt] using hc28), (by have h := S24.take 4; rw [← alike_step (by omega)]; exact h)⟩
 obtain rfl : i = 6 := by omega
 refine r_exit rfl ?_
 refine r_seq ?_
 refine r_region ?_
 refine l_x rfl (x_load rfl (ld_blks (S1.blk 3 rfl) Tryz.isAgg30 Tryz.sizeOf30 rfl rfl)) ?_
 refine l_stores (vs := [_, _, _, _, _, _]) S1 2 rfl rfl rfl rfl (ones_cons rfl (ones_cons rfl (ones_cons rfl (ones_cons rfl (ones_cons rfl (ones_cons rfl ones_nil)))))) Tryz.sizeOf30 (by first | exact Nat.le_refl _ | simp) (splice_all rfl) ?_
 intro w26 S27 hk28
 refine l_a rfl ?_
 refine l_nil ?_
 refine r_ret (rs := [.cell 6 30, .tmp 7]) [_, _] Tryz.func76 rfl ⟨⟨_, rfl, (ld_blks (S27.blk 2 rfl) Tryz.isAgg30 Tryz.sizeOf30 rfl rfl)⟩, rfl, trivial⟩ ?_
 exact ⟨by rw [alike_yes hc]; rfl, S27.le⟩

end Go.Proofs
