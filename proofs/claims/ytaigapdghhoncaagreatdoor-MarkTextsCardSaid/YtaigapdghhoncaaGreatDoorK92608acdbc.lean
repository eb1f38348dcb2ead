/- Texts joined for claims: VkCore, VkMem, VkOps, VkDraw, VkOps2, VkVec, VkVec2, VkOps3, VkIter, VkTab, VkLend, VkSorts, VkCut, VkNest, VkFlowMath, VkDeedMath, VkDraw2, VkCopy, VkYoung, VkForget, VkLate, VkLate2, VkLate3, VkMaps, VkPanics, VkMarks, VkTail6, VkDrawZ, VkDrawP, VkDrawP2, VkCut2. -/
import Derived.CallsIn
import Derived.RangeFuncIn
import Derived.Orders
import Derived.Attr
import Derived.Tactics
import Derived.Laws.World
import Derived.Laws.Rows
import Derived.Laws.Cells
import Derived.Below
import Derived.IntWalk
import Derived.Laws.AppendOwn
import Derived.Still
import Derived.KernelRfl
import Derived.RangeFuncLeaves
import Derived.ChangeKeysEq
import Derived.Laws.StructEq
import Derived.Lib.SlicesCompact
import Derived.Lib.RowBridge
import Derived.Sort.Grow
import Derived.Lib.Slices
import Derived.MapKept
import Derived.Recover
set_option linter.unusedVariables false
set_option linter.unusedSimpArgs false
set_option linter.unusedSectionVars false
namespace Go.Vk
open Go

abbrev Env := Nat → Value

def upd (ρ : Env) (d : Nat) (v : Value) : Env := fun t => bif Nat.beq t d then v else ρ t

theorem upd_same (ρ : Env) (d : Nat) (v : Value) : upd ρ d v d = v := by simp [upd]
theorem upd_other {ρ : Env} {d t : Nat} {v : Value} (h : t ≠ d) : upd ρ d v t = ρ t := by
 have : Nat.beq t d = false := by
  cases e : Nat.beq t d with
  | false => rfl
  | true => exact absurd (Nat.eq_of_beq_eq_true e) h
 simp [upd, this]
theorem upd_self {ρ : Env} {d : Nat} {v : Value} (h : ρ d = v) : upd ρ d v = ρ := by
 funext t
 by_cases e : t = d
 ·subst e; rw [upd_same, h]
 rw [upd_other e]

def mkA (n : Nat) (ρ : Env) (ds : List Deferred) : Act := { tmps := Array.ofFn (n := n) fun i => ρ i, defers := ds }

theorem mkA_put (n : Nat) (ρ : Env) (ds : List Deferred) (d : Nat) (v : Value) : (mkA n ρ ds).put (some d) v = mkA n (upd ρ d v) ds := by
 simp only [mkA, Act.put]
 congr 1
 apply Array.ext
 ·simp
 intro i h1 h2
 simp only [Array.size_setIfInBounds, Array.size_ofFn] at h1
 rw [Array.getElem_setIfInBounds (by simpa using h1)]
 simp only [Array.getElem_ofFn]
 by_cases e : d = i
 ·subst e; simp [upd_same]
 rw [if_neg e, upd_other (Ne.symm e)]

def ev (n : Nat) (ρ : Env) : Operand → Value
 | .tmp t => bif Nat.blt t n then ρ t else undef
 | .const v => v
 | .global g => .pointer (some ⟨g, 0, none⟩)
 | .func f => .func (.func f) #[] #[]

theorem mkA_eval (n : Nat) (ρ : Env) (ds : List Deferred) : (mkA n ρ ds).eval = ev n ρ := by
 funext x
 cases x with
 | tmp t =>
  simp only [Act.eval, mkA, ev]
  by_cases h : t < n
  ·have : Nat.blt t n = true := by simpa using h
   simp [this, h]
  have : Nat.blt t n = false := by
   cases e : Nat.blt t n with
   | false => rfl
   | true => exact absurd (Nat.blt_eq ▸ e) h
  simp [this, h]
 | _ => rfl

theorem mkA_get (n : Nat) (ρ : Env) (ds : List Deferred) (t : Nat) (h : t < n) : (mkA n ρ ds).tmps[t]? = some (ρ t) := by
 simp [mkA, h]

def Run (P : Program) (b : Frame) (cs : List Frame) (fin : Machine → Prop) (n : Nat) (k : List Item) (ρ : Env) (ds : List Deferred) (w : World) : Prop :=
 ∃ m, Steps P (lone (b.atR (mkA n ρ ds) k) cs w) m ∧ fin m

section rules
variable {P : Program} {b : Frame} {cs : List Frame} {fin : Machine → Prop} {n : Nat} {k : List Item} {ρ : Env} {ds : List Deferred} {w : World}

theorem Run.of_step {k' : List Item} {ρ' : Env} {ds' : List Deferred} {w' : World}
  (hs : step P (lone (b.atR (mkA n ρ ds) k) cs w) = .next (lone (b.atR (mkA n ρ' ds') k') cs w')) (h : Run P b cs fin n k' ρ' ds' w') :
  Run P b cs fin n k ρ ds w :=
 let ⟨m, h1, h2⟩ := h; ⟨m, .head hs h1, h2⟩

theorem r_skip (h : Run P b cs fin n k ρ ds w) : Run P b cs fin n (.code .skip :: k) ρ ds w := h.of_step stepR_skip
theorem r_label {l : Nat} (h : Run P b cs fin n k ρ ds w) : Run P b cs fin n (.code (.label l) :: k) ρ ds w := h.of_step stepR_label
theorem r_inBlock {id : Nat} (h : Run P b cs fin n k ρ ds w) : Run P b cs fin n (.inBlock id :: k) ρ ds w := h.of_step stepR_inBlock
theorem r_seq {x y : Code} (h : Run P b cs fin n (.code x :: .code y :: k) ρ ds w) : Run P b cs fin n (.code (.seq x y) :: k) ρ ds w := h.of_step stepR_seq
theorem r_block {id : Nat} {c : Code} (h : Run P b cs fin n (.code c :: .inBlock id :: k) ρ ds w) : Run P b cs fin n (.code (.block id c) :: k) ρ ds w := h.of_step stepR_block
theorem r_loop0 {c : Code} (h : Run P b cs fin n (.code c :: .inLoop c :: k) ρ ds w) : Run P b cs fin n (.code (.loop c) :: k) ρ ds w := h.of_step stepR_loop
theorem r_inLoop0 {c : Code} (h : Run P b cs fin n (.code c :: .inLoop c :: k) ρ ds w) : Run P b cs fin n (.inLoop c :: k) ρ ds w := h.of_step stepR_inLoop
theorem r_exit {id : Nat} {k' : List Item} (hk : exitTo id k = some k') (h : Run P b cs fin n k' ρ ds w) : Run P b cs fin n (.code (.exit id) :: k) ρ ds w := h.of_step (stepR_exit hk)
theorem stepR_scope {a : Act} {c : Code} : step P (lone (b.atR a (.code (.scope c) :: k)) cs w) = .next (lone (b.atR a (.code c :: .inScope c :: k)) cs w) :=
 step_lone_go (by simp [stepG, stepG.exec, Frame.atR])
theorem stepR_inScope {a : Act} {c : Code} : step P (lone (b.atR a (.inScope c :: k)) cs w) = .next (lone (b.atR a k) cs w) :=
 step_lone_go (by simp [stepG, stepG.exec, Frame.atR])
theorem r_scope {c : Code} (h : Run P b cs fin n (.code c :: .inScope c :: k) ρ ds w) : Run P b cs fin n (.code (.scope c) :: k) ρ ds w := h.of_step stepR_scope
theorem r_inScope {c : Code} (h : Run P b cs fin n k ρ ds w) : Run P b cs fin n (.inScope c :: k) ρ ds w := h.of_step stepR_inScope

theorem r_cond {c : Operand} {x y : Code} {t : Bool} (hc : ev n ρ c = .bool t) (h : Run P b cs fin n (.code (bif t then x else y) :: k) ρ ds w) :
  Run P b cs fin n (.code (.cond c x y) :: k) ρ ds w := by
 refine Run.of_step (stepR_cond (t := t) (by rw [mkA_eval]; exact hc)) ?_
 cases t <;> exact h
theorem r_true {c : Operand} {x y : Code} (hc : ev n ρ c = .bool true) (h : Run P b cs fin n (.code x :: k) ρ ds w) : Run P b cs fin n (.code (.cond c x y) :: k) ρ ds w := r_cond hc h
theorem r_false {c : Operand} {x y : Code} (hc : ev n ρ c = .bool false) (h : Run P b cs fin n (.code y :: k) ρ ds w) : Run P b cs fin n (.code (.cond c x y) :: k) ρ ds w := r_cond hc h
theorem r_if {c : Operand} {x y : Code} {t : Bool} (hc : ev n ρ c = .bool t) (ht : t = true → Run P b cs fin n (.code x :: k) ρ ds w)
  (hf : t = false → Run P b cs fin n (.code y :: k) ρ ds w) : Run P b cs fin n (.code (.cond c x y) :: k) ρ ds w := by
 cases t
 ·exact r_false hc (hf rfl)
 exact r_true hc (ht rfl)
theorem r_ifd {c : Operand} {x y : Code} {p : Prop} [Decidable p] (hc : ev n ρ c = .bool (decide p)) (ht : p → Run P b cs fin n (.code x :: k) ρ ds w)
  (hf : ¬ p → Run P b cs fin n (.code y :: k) ρ ds w) : Run P b cs fin n (.code (.cond c x y) :: k) ρ ds w :=
 r_if hc (fun h => ht (of_decide_eq_true h)) (fun h => hf (of_decide_eq_false h))


def Agree (ρ : Env) : List (Nat × Value) → Prop
 | [] => True
 | (d, v) :: l => ρ d = v ∧ Agree ρ l

def upds (ρ : Env) : List (Nat × Value) → Env
 | [] => ρ
 | (d, v) :: l => upd (upds ρ l) d v

theorem upds_agree {ρ : Env} {l : List (Nat × Value)} (h : Agree ρ l) : upds ρ l = ρ := by
 induction l with
 | nil => rfl
 | cons p l ih =>
  obtain ⟨d, v⟩ := p
  simp only [upds, ih h.2]
  exact upd_self h.1

theorem r_loop {G : Type} (μ : G → Nat) (slots : G → List (Nat × Value)) (I : G → World → Prop) {c : Code} (g : G) (ha : Agree ρ (slots g)) (hI : I g w)
  (round : ∀ g ρ w, I g w → (∀ g' ρ' w', μ g' < μ g → Agree ρ' (slots g') → I g' w' → Run P b cs fin n (.inLoop c :: k) ρ' ds w') →
   Run P b cs fin n (.code c :: .inLoop c :: k) (upds ρ (slots g)) ds w) :
  Run P b cs fin n (.code (.loop c) :: k) ρ ds w := by
 have key : ∀ N g ρ w, μ g = N → Agree ρ (slots g) → I g w → Run P b cs fin n (.inLoop c :: k) ρ ds w := by
  intro N
  induction N using Nat.strongRecOn with
  | _ N ih =>
   intro g ρ w hN ha hI
   refine r_inLoop0 ?_
   have := round g ρ w hI fun g' ρ' w' hlt ha' hI' => ih _ (hN ▸ hlt) g' ρ' w' rfl ha' hI'
   rwa [upds_agree ha] at this
 have h := key _ g ρ w rfl ha hI
 refine r_loop0 ?_
 obtain ⟨m, hs, hf⟩ := h
 obtain ⟨j, hj⟩ := hs
 cases j with
 | zero =>
  -- the machine before a round of a loop is no end: go one round by the rule
  have := round g ρ w hI fun g' ρ' w' _ ha' hI' => key _ g' ρ' w' rfl ha' hI'
  rwa [upds_agree ha] at this
 | succ j =>
  have := round g ρ w hI fun g' ρ' w' _ ha' hI' => key _ g' ρ' w' rfl ha' hI'
  rwa [upds_agree ha] at this

end rules


def Cl (P : Program) (f : FuncId) (args : Array Value) (w : World) (R : Value → World → Prop) : Prop :=
 Calls P f args w fun e w' => ∃ v, e = .returned v ∧ R v w'

theorem Cl.mono {P : Program} {f : FuncId} {args : Array Value} {w : World} {R R' : Value → World → Prop} (h : Cl P f args w R) (hr : ∀ v w', R v w' → R' v w') : Cl P f args w R' :=
 Calls.mono h fun _ _ ⟨v, he, hR⟩ => ⟨v, he, hr _ _ hR⟩

def finRet (P : Program) (f : FuncId) (cs : List Frame) (R : Value → World → Prop) : Machine → Prop := fun m =>
 ∃ v w' fr, m = lone fr cs w' ∧ R v w' ∧ fr.fn = f ∧ fr.leaving P w' (.returned v)

def frameOf (f : FuncId) : Frame := { (default : Frame) with fn := f, kind := .normal, roundOf := none }

def env0 (args : List Value) : Env := fun t => args.getD t undef

theorem fn_of_run {P : Program} {f : FuncId} {F : Func} {c : Code} {args : List Value} {w : World} {R : Value → World → Prop} (N : Nat)
  (hf : P.funcs[f]? = some F) (hb : F.body = some c) (hN : F.ntmps = N) (hle : Nat.ble args.length N = true)
  (h : ∀ cs, Run P (frameOf f) cs (finRet P f cs R) N [.code c] (env0 args) [] w) : Cl P f args.toArray w R := by
 have ha : args.length ≤ N := Nat.le_of_ble_eq_true hle
 intro cs
 obtain ⟨m, hs, v, w', fr, rfl, hR, hfn, hl⟩ := h cs
 refine ⟨.returned v, w', fr, ⟨v, rfl, hR⟩, ?_, hfn, hl⟩
 have henter : Frame.enter P f args.toArray .normal = (frameOf f).atR (mkA N (env0 args) []) [.code c] := by
  have ht : args.toArray ++ Array.replicate (N - args.toArray.size) undef = Array.ofFn (n := N) fun i => env0 args i := by
   apply Array.ext
   ·simp; omega
   intro i h1 h2
   simp only [Array.size_ofFn] at h2
   rw [Array.getElem_append]
   simp only [Array.getElem_ofFn, env0]
   by_cases hi : i < args.length
   ·simp [hi]
   simp [hi]
  simp [Frame.enter, Frame.atR, hf, hb, hN, frameOf, mkA, ← ht]
 rw [henter]
 exact hs

def Res (P : Program) (N : Nat) (ρ : Env) (w : World) : List ResultVar → List Value → Prop
 | [], [] => True
 | .tmp t :: rs, v :: vs => v = (bif Nat.blt t N then ρ t else undef) ∧ Res P N ρ w rs vs
 | .cell a t :: rs, v :: vs => (∃ p, (bif Nat.blt a N then ρ a else undef) = .pointer (some p) ∧ (loadVar t p).run P w = .ok v w) ∧ Res P N ρ w rs vs
 | _, _ => False

def packed : List Value → Value
 | [v] => v
 | vs => .tuple vs.toArray

def resSem (tmps : Array Value) : ResultVar → Sem Value
 | .tmp t => pure (tmps.getD t undef)
 | .cell a t => do loadVar t (← asAddr (tmps.getD a undef))

theorem mapM_results {P : Program} {N : Nat} {ρ : Env} {ds : List Deferred} {w : World} : ∀ (rs : List ResultVar) (vs : List Value), Res P N ρ w rs vs →
  (rs.mapM (resSem (mkA N ρ ds).tmps)).run P w = .ok vs w := by
 have hget : ∀ t, (mkA N ρ ds).tmps.getD t undef = (bif Nat.blt t N then ρ t else undef) := fun t => congrFun (mkA_eval N ρ ds) (.tmp t)
 intro rs
 induction rs with
 | nil => intro vs h; cases vs with
  | nil => rfl
  | cons v vs => exact h.elim
 | cons r rs ih =>
  intro vs h
  cases vs with
  | nil => cases r <;> exact h.elim
  | cons v vs =>
   have hh : (resSem (mkA N ρ ds).tmps r).run P w = .ok v w ∧ Res P N ρ w rs vs := by
    cases r with
    | tmp t => exact ⟨by rw [h.1, ← hget]; rfl, h.2⟩
    | cell a t =>
     obtain ⟨⟨p, hp, hl⟩, h⟩ := h
     refine ⟨?_, h⟩
     simp only [resSem, hget, hp, asAddr]
     exact hl
   rw [List.mapM_cons, Sem.run_bind, hh.1, Result.andThen, Sem.run_bind, ih vs hh.2]
   rfl

theorem results_run {P : Program} {N : Nat} {ρ : Env} {ds : List Deferred} {w : World} {F : Func} {rs : List ResultVar} {vs : List Value}
  (hr : F.results = rs.toArray) (h : Res P N ρ w rs vs) : (results F (mkA N ρ ds).tmps).run P w = .ok (packed vs) w := by
 have hm := mapM_results (ds := ds) rs vs h
 have e : results F (mkA N ρ ds).tmps = (do let vs ← F.results.mapM (resSem (mkA N ρ ds).tmps); pure (if h : vs.size = 1 then vs[0] else .tuple vs)) := rfl
 rw [e, hr, Sem.run_bind]
 have e2 : (rs.toArray.mapM (resSem (mkA N ρ ds).tmps)).run P w = .ok vs.toArray w := by
  rw [List.mapM_toArray, map_eq_pure_bind, Sem.run_bind, hm]
  rfl
 rw [e2]
 cases vs with
 | nil => rfl
 | cons v vs => cases vs with
  | nil => rfl
  | cons u us => rfl

theorem r_ret {P : Program} {f : FuncId} {cs : List Frame} {R : Value → World → Prop} {N : Nat} {k : List Item} {ρ : Env} {w : World} {F : Func} {rs : List ResultVar} (vs : List Value)
  (hf : P.funcs[f]? = some F) (hr : F.results = rs.toArray) (hv : Res P N ρ w rs vs) (hR : R (packed vs) w) :
  Run P (frameOf f) cs (finRet P f cs R) N (.code .ret :: k) ρ [] w :=
 ⟨_, .one (stepR_ret rfl), _, w, _, rfl, hR, rfl, rfl, rfl, rfl, F, hf, results_run (ds := []) hr hv⟩
theorem r_end {P : Program} {f : FuncId} {cs : List Frame} {R : Value → World → Prop} {N : Nat} {ρ : Env} {w : World} {F : Func} {rs : List ResultVar} (vs : List Value)
  (hf : P.funcs[f]? = some F) (hr : F.results = rs.toArray) (hv : Res P N ρ w rs vs) (hR : R (packed vs) w) :
  Run P (frameOf f) cs (finRet P f cs R) N [] ρ [] w :=
 ⟨_, .one (stepR_end rfl), _, w, _, rfl, hR, rfl, rfl, rfl, rfl, F, hf, results_run (ds := []) hr hv⟩

end Go.Vk

namespace Go.Vk
open Go

def nob : Nat → Prop := fun _ => False

structure Keep (X : Nat → Prop) (w w' : World) : Prop where
 os : w'.os = w.os
 tape : w'.tape = w.tape
 output : w'.output = w.output
 size : w.heap.size ≤ w'.heap.size
 block : ∀ b, b < w.heap.size → ¬ X b → w'.heap[b]? = w.heap[b]?
 drawn : w.drawn ≤ w'.drawn

abbrev Le (w w' : World) : Prop := Keep nob w w'

theorem Keep.refl (X : Nat → Prop) (w : World) : Keep X w w := ⟨rfl, rfl, rfl, Nat.le_refl _, fun _ _ _ => rfl, Nat.le_refl _⟩
theorem Keep.trans {X : Nat → Prop} {w w' w'' : World} (h : Keep X w w') (h' : Keep X w' w'') : Keep X w w'' :=
  ⟨h'.os.trans h.os, h'.tape.trans h.tape, h'.output.trans h.output, Nat.le_trans h.size h'.size,
   fun b hb hx => (h'.block b (Nat.lt_of_lt_of_le hb h.size) hx).trans (h.block b hb hx), Nat.le_trans h.drawn h'.drawn⟩
theorem Keep.mono {X Y : Nat → Prop} {w w' : World} (h : Keep X w w') (hXY : ∀ b, b < w.heap.size → X b → Y b) : Keep Y w w' :=
 ⟨h.os, h.tape, h.output, h.size, fun b hb hy => h.block b hb fun hx => hy (hXY b hb hx), h.drawn⟩
theorem Keep.of_le {X : Nat → Prop} {w w' : World} (h : Le w w') : Keep X w w' := h.mono fun _ _ h => h.elim
theorem Le.refl (w : World) : Le w w := Keep.refl _ _
theorem Le.trans {w w' w'' : World} (h : Le w w') (h' : Le w' w'') : Le w w'' := Keep.trans h h'

theorem frozen_at {w : World} {b : Nat} {c : Array Value} {T : TypeId} (h : w.heap[b]? = some (.cells c T (0, 0))) (o : Nat) (s : Option Nat) : w.frozen? ⟨b, o, s⟩ = false := by
 unfold World.frozen?
 simp [h]

theorem Le.alloc_cells (w : World) (c : Array Value) (T : TypeId) : Le w (w.alloc (.cells c T (0, 0))) :=
 ⟨rfl, rfl, rfl, by simp, fun b hb _ => heap_alloc_old w _ b hb, Nat.le_refl _⟩

theorem Le.drew (w : World) : Le w w.drew := ⟨rfl, rfl, rfl, Nat.le_refl _, fun _ _ _ => rfl, Nat.le_succ _⟩

theorem Keep.setCell (w : World) (a : Addr) (v : Value) : Keep (· = a.block) w (w.setCell a v) :=
 ⟨rfl, rfl, rfl, by simp, fun _ _ h => heap_setCell_other w a _ v h, Nat.le_refl _⟩


def Blk (w : World) (b : Nat) (c : List Value) (T : TypeId) : Prop := w.heap[b]? = some (.cells c.toArray T (0, 0))

theorem Blk.lt {w : World} {b : Nat} {c : List Value} {T : TypeId} (h : Blk w b c T) : b < w.heap.size := (Array.getElem?_eq_some_iff.1 h).1
theorem Blk.cell {w : World} {b : Nat} {c : List Value} {T : TypeId} (h : Blk w b c T) {o : Nat} {v : Value} (hi : c[o]? = some v) : w.cell? ⟨b, o, none⟩ = some v := by
 rw [cell_of_row w b o _ T _ h]; simpa using hi
theorem Blk.new (w : World) (c : List Value) (T : TypeId) : Blk (w.alloc (.cells c.toArray T (0, 0))) w.heap.size c T := heap_alloc_new w _
theorem Blk.set {w : World} {b : Nat} {c : List Value} {T : TypeId} (h : Blk w b c T) (o : Nat) (v : Value) : Blk (w.setCell ⟨b, o, none⟩ v) b (c.set o v) T := by
 have := heap_setCell_same w b o c.toArray T v h
 unfold Blk
 rw [this]
 simp
theorem Blk.keep {X : Nat → Prop} {w w' : World} {b : Nat} {c : List Value} {T : TypeId} (h : Blk w b c T) (hk : Keep X w w') (hx : ¬ X b) : Blk w' b c T := (hk.block b h.lt hx).trans h


structure Rsc where
 fp : Nat → Prop
 ok : World → Prop
 st : ∀ {w w' : World}, (∀ b, fp b → w'.heap[b]? = w.heap[b]?) → ok w → ok w'

def blk (b : Nat) (c : List Value) (T : TypeId) : Rsc := ⟨(· = b), fun w => Blk w b c T, fun h hb => (h b rfl).trans hb⟩

structure Own (X : Nat → Prop) (w0 w : World) (L : List Rsc) : Prop where
 keep : Keep X w0 w
 ok : ∀ (k : Nat) (r : Rsc), L[k]? = some r → r.ok w
 bd : ∀ (k : Nat) (r : Rsc), L[k]? = some r → ∀ b, r.fp b → b < w.heap.size ∧ (w0.heap.size ≤ b ∨ X b)
 dj : ∀ (j k : Nat) (r s : Rsc), L[j]? = some r → L[k]? = some s → j ≠ k → ∀ b, r.fp b → ¬ s.fp b

section own
variable {X : Nat → Prop} {w0 w w' : World} {L : List Rsc} {r r' : Rsc} {b : Nat} {c : List Value} {T : TypeId} {o : Nat} {v : Value}

theorem Own.start (w : World) : Own X w w [] := ⟨Keep.refl _ _, fun _ _ h => by simp at h, fun _ _ h => by simp at h, fun _ _ _ _ h => by simp at h⟩

theorem Own.lent (hr : r.ok w) (hb : ∀ b, r.fp b → b < w.heap.size) : Own r.fp w w [r] := by
 refine ⟨Keep.refl _ _, fun k s h => ?_, fun k s h b hs => ?_, fun j k s t h h' hne => ?_⟩
 ·cases k with
  | zero => simp at h; subst h; exact hr
  | succ k => simp at h
 ·cases k with
  | zero => simp at h; subst h; exact ⟨hb b hs, .inr hs⟩
  | succ k => simp at h
 cases j <;> cases k <;> simp at h h' hne

theorem Own.at (h : Own X w0 w L) (k : Nat) (hk : L[k]? = some r) : r.ok w := h.ok k r hk
theorem Own.blk (h : Own X w0 w L) (k : Nat) (hk : L[k]? = some (blk b c T)) : Blk w b c T := h.ok k _ hk
theorem Own.cell (h : Own X w0 w L) (k : Nat) (hk : L[k]? = some (Vk.blk b c T)) (hi : c[o]? = some v) : w.cell? ⟨b, o, none⟩ = some v := (h.blk k hk).cell hi

theorem Own.step (h : Own X w0 w L) (hk : Le w w') : Own X w0 w' L :=
  ⟨h.keep.trans hk.of_le, fun k r hr => r.st (fun b hb => hk.block b (h.bd k r hr b hb).1 id) (h.ok k r hr),
   fun k r hr b hb => ⟨Nat.lt_of_lt_of_le (h.bd k r hr b hb).1 hk.size, (h.bd k r hr b hb).2⟩, h.dj⟩

structure New (w w' : World) (r : Rsc) : Prop where
 ok : r.ok w'
 bd : ∀ b, r.fp b → w.heap.size ≤ b ∧ b < w'.heap.size

theorem New.step {w'' : World} (h : New w w' r) (hk : Le w' w'') : New w w'' r :=
 ⟨r.st (fun b hb => hk.block b (h.bd b hb).2 id) h.ok, fun b hb => ⟨(h.bd b hb).1, Nat.lt_of_lt_of_le (h.bd b hb).2 hk.size⟩⟩
theorem New.back {w1 : World} (h : New w1 w' r) (hk : w.heap.size ≤ w1.heap.size) : New w w' r :=
 ⟨h.ok, fun b hb => ⟨Nat.le_trans hk (h.bd b hb).1, (h.bd b hb).2⟩⟩

theorem getElem?_snoc {α : Type} {l : List α} {x y : α} {k : Nat} (h : (l ++ [x])[k]? = some y) : (k < l.length ∧ l[k]? = some y) ∨ (k = l.length ∧ x = y) := by
 rcases Nat.lt_trichotomy k l.length with hk | hk | hk
 ·left; rw [List.getElem?_append_left hk] at h; exact ⟨hk, h⟩
 ·right; subst hk; simpa using h
 rw [List.getElem?_append_right (by omega)] at h
 rw [List.getElem?_eq_none (by simp; omega)] at h
 cases h

theorem Own.add (h : Own X w0 w L) (hk : Le w w') (hn : New w w' r) : Own X w0 w' (L ++ [r]) := by
 have h' := h.step hk
 refine ⟨h'.keep, fun k s hs => ?_, fun k s hs b hb => ?_, fun j k s t hs ht hne b hb => ?_⟩
 ·rcases getElem?_snoc hs with ⟨_, hs⟩ | ⟨_, rfl⟩
  ·exact h'.ok k s hs
  exact hn.ok
 ·rcases getElem?_snoc hs with ⟨_, hs⟩ | ⟨_, rfl⟩
  ·exact h'.bd k s hs b hb
  exact ⟨(hn.bd b hb).2, .inl (Nat.le_trans h.keep.size (hn.bd b hb).1)⟩
 rcases getElem?_snoc hs with ⟨h1, hs⟩ | ⟨h1, rfl⟩
 ·rcases getElem?_snoc ht with ⟨h2, ht⟩ | ⟨h2, rfl⟩
  ·exact h.dj j k s t hs ht hne b hb
  intro hb'
  have := (h.bd j s hs b hb).1
  have := (hn.bd b hb').1
  omega
 rcases getElem?_snoc ht with ⟨h2, ht⟩ | ⟨h2, rfl⟩
 ·intro hb'
  have := (h.bd k t ht b hb').1
  have := (hn.bd b hb).1
  omega
 omega

theorem New.blk (w : World) (c : List Value) (T : TypeId) : New w (w.alloc (.cells c.toArray T (0, 0))) (Vk.blk w.heap.size c T) :=
 ⟨Blk.new w c T, fun b hb => by cases hb; simp⟩

theorem Own.alloc (h : Own X w0 w L) (c : List Value) (T : TypeId) : Own X w0 (w.alloc (.cells c.toArray T (0, 0))) (L ++ [Vk.blk w.heap.size c T]) :=
 h.add (Le.alloc_cells w _ T) (New.blk w c T)

theorem Own.turn {Y : Nat → Prop} (h : Own X w0 w L) (k : Nat) (hr : L[k]? = some r) (hk : Keep Y w w') (hY : ∀ b, b < w.heap.size → Y b → r.fp b) (hn : r'.ok w')
  (hfp : ∀ b, r'.fp b → r.fp b ∨ (w.heap.size ≤ b ∧ b < w'.heap.size)) : Own X w0 w' (L.set k r') := by
 have hkk : k < L.length := (List.getElem?_eq_some_iff.1 hr).1
 have hset : ∀ {j s}, (L.set k r')[j]? = some s → (j = k ∧ s = r') ∨ (j ≠ k ∧ L[j]? = some s) := by
  intro j s hs
  by_cases e : j = k
  ·subst e; left
   rw [List.getElem?_set_self hkk] at hs
   exact ⟨rfl, (Option.some.inj hs).symm⟩
  right; rw [List.getElem?_set_ne (Ne.symm e)] at hs; exact ⟨e, hs⟩
 have hX : ∀ b, b < w0.heap.size → ¬ X b → w'.heap[b]? = w.heap[b]? := by
  intro b hb hx
  refine hk.block b (Nat.lt_of_lt_of_le hb h.keep.size) fun hy => ?_
  have := (h.bd k r hr b (hY b (Nat.lt_of_lt_of_le hb h.keep.size) hy)).2
  rcases this with h1 | h1
  ·omega
  exact hx h1
 refine ⟨⟨hk.os.trans h.keep.os, hk.tape.trans h.keep.tape, hk.output.trans h.keep.output, Nat.le_trans h.keep.size hk.size, fun b hb hx => (hX b hb hx).trans (h.keep.block b hb hx), Nat.le_trans h.keep.drawn hk.drawn⟩, ?_, ?_, ?_⟩
 ·intro j s hs
  rcases hset hs with ⟨_, rfl⟩ | ⟨e, hs⟩
  ·exact hn
  exact s.st (fun b hb => hk.block b (h.bd j s hs b hb).1 fun hy => h.dj j k s r hs hr e b hb (hY b (h.bd j s hs b hb).1 hy)) (h.ok j s hs)
 ·intro j s hs b hb
  rcases hset hs with ⟨_, rfl⟩ | ⟨e, hs⟩
  ·rcases hfp b hb with h1 | ⟨h1, h2⟩
   ·exact ⟨Nat.lt_of_lt_of_le (h.bd k r hr b h1).1 hk.size, (h.bd k r hr b h1).2⟩
   exact ⟨h2, .inl (Nat.le_trans h.keep.size h1)⟩
  exact ⟨Nat.lt_of_lt_of_le (h.bd j s hs b hb).1 hk.size, (h.bd j s hs b hb).2⟩
 intro i j s t hs ht hne b hb hb'
 rcases hset hs with ⟨e1, rs⟩ | ⟨e1, hs2⟩
 ·rcases hset ht with ⟨e2, rt⟩ | ⟨e2, ht2⟩
  ·omega
  rw [rs] at hb
  rcases hfp b hb with h1 | ⟨h1, h2⟩
  ·exact h.dj k j r t hr ht2 (Ne.symm e2) b h1 hb'
  have := (h.bd j t ht2 b hb').1; omega
 rcases hset ht with ⟨e2, rt⟩ | ⟨e2, ht2⟩
 ·rw [rt] at hb'
  rcases hfp b hb' with h1 | ⟨h1, h2⟩
  ·exact h.dj k i r s hr hs2 (Ne.symm e1) b h1 hb
  have := (h.bd i s hs2 b hb).1; omega
 exact h.dj i j s t hs2 ht2 hne b hb hb'

theorem Own.set (h : Own X w0 w L) (k : Nat) (hr : L[k]? = some (Vk.blk b c T)) (o : Nat) (v : Value) : Own X w0 (w.setCell ⟨b, o, none⟩ v) (L.set k (Vk.blk b (c.set o v) T)) :=
 h.turn k hr (Keep.setCell w ⟨b, o, none⟩ v) (fun _ _ h => h) ((h.blk k hr).set o v) (fun _ h => .inl h)

theorem Own.as (h : Own X w0 w L) (k : Nat) (hr : L[k]? = some r) (hn : r'.ok w) (hfp : ∀ b, r'.fp b → r.fp b) : Own X w0 w (L.set k r') :=
 h.turn (Y := nob) k hr (Le.refl w) (fun _ _ h => h.elim) hn (fun b hb => .inl (hfp b hb))

theorem Own.take (h : Own X w0 w L) (n : Nat) : Own X w0 w (L.take n) := by
 have key : ∀ {k : Nat} {r : Rsc}, (L.take n)[k]? = some r → L[k]? = some r := by
  intro k r hk
  rw [List.getElem?_take] at hk
  split at hk
  ·exact hk
  cases hk
 exact ⟨h.keep, fun k r hr => h.ok k r (key hr), fun k r hr => h.bd k r (key hr), fun j k r s hr hs => h.dj j k r s (key hr) (key hs)⟩

theorem Own.perm (h : Own X w0 w L) (is : List Nat) (hn : is.Nodup) {L' : List Rsc} (hL : ∀ (k : Nat) (r : Rsc), L'[k]? = some r → ∃ i : Nat, is[k]? = some i ∧ L[i]? = some r) : Own X w0 w L' := by
 refine ⟨h.keep, fun k r hr => ?_, fun k r hr => ?_, fun j k r s hr hs hne => ?_⟩
 ·obtain ⟨i, _, hi⟩ := hL k r hr; exact h.ok i r hi
 ·obtain ⟨i, _, hi⟩ := hL k r hr; exact h.bd i r hi
 obtain ⟨i, h1, hi⟩ := hL j r hr
 obtain ⟨i', h2, hi'⟩ := hL k s hs
 refine h.dj i i' r s hi hi' fun e => hne ?_
 subst e
 obtain ⟨h1l, h1⟩ := List.getElem?_eq_some_iff.1 h1
 obtain ⟨h2l, h2⟩ := List.getElem?_eq_some_iff.1 h2
 have hp := List.pairwise_iff_getElem.1 hn
 rcases Nat.lt_trichotomy j k with e | e | e
 ·exact absurd (h1.trans h2.symm) (hp j k h1l h2l e)
 ·exact e
 exact absurd (h2.trans h1.symm) (hp k j h2l h1l e)

theorem Own.le (h : Own nob w0 w L) : Le w0 w := h.keep
theorem Own.new (h : Own nob w0 w L) (k : Nat) (hr : L[k]? = some r) : New w0 w r :=
 ⟨h.ok k r hr, fun b hb => ⟨(h.bd k r hr b hb).2.resolve_right id, (h.bd k r hr b hb).1⟩⟩

end own


structure Elt (α : Type) where
 T : TypeId
 sz : Nat
 enc : α → List Value
 zero : List Value
 len : ∀ a, (enc a).length = sz
 zlen : zero.length = sz
 one : ∀ a, ∀ x ∈ enc a, x.oneCell' = true
 pos : 0 < sz

def Row (w : World) (b o : Nat) (c : List Value) : Prop := ∀ j x, c[j]? = some x → w.cell? ⟨b, o + j, none⟩ = some x

def Rd {α : Type} (E : Elt α) (w : World) (v : Value) (l : List α) : Prop :=
 ∃ p cap, v = .slice p l.length cap ∧ l.length ≤ cap ∧ ∀ (i : Nat) (a : α), l[i]? = some a → ∃ b o, p = some ⟨b, o, none⟩ ∧ Row w b (o + i * E.sz) (E.enc a)

theorem cell_keep {X : Nat → Prop} {w w' : World} {a : Addr} {v : Value} (h : w.cell? a = some v) (hk : Keep X w w') (hx : ¬ X a.block) : w'.cell? a = some v := by
 have hlt := World.block_lt_of_cell? (h := h)
 rw [← h]
 unfold World.cell?
 rw [hk.block a.block hlt hx]

theorem Row.le {w w' : World} {b o : Nat} {c : List Value} (h : Row w b o c) (hk : Le w w') : Row w' b o c := fun j x hx => cell_keep (h j x hx) hk id

theorem Rd.le {α : Type} {E : Elt α} {w w' : World} {v : Value} {l : List α} (h : Rd E w v l) (hk : Le w w') : Rd E w' v l := by
 obtain ⟨p, cap, hv, hc, h⟩ := h
 refine ⟨p, cap, hv, hc, fun i a ha => ?_⟩
 obtain ⟨b, o, hp, hr⟩ := h i a ha
 exact ⟨b, o, hp, hr.le hk⟩

theorem Rd.cells {α : Type} {E : Elt α} {w : World} {v : Value} {l : List α} (h : Rd E w v l) : v.cells = [v].toArray := by
 obtain ⟨p, cap, rfl, _⟩ := h; rfl
theorem Rd.one {α : Type} {E : Elt α} {w : World} {v : Value} {l : List α} (h : Rd E w v l) : v.oneCell' = true := by
 obtain ⟨p, cap, rfl, _⟩ := h; rfl

def vec {α : Type} (E : Elt α) (v : Value) (l : List α) : Rsc where
 fp := fun b => ∃ n cap, v = .slice (some ⟨b, 0, none⟩) n cap
 ok := fun w => (v = .slice none 0 0 ∧ l = []) ∨ ∃ b cap c, v = .slice (some ⟨b, 0, none⟩) l.length cap ∧ l.length ≤ cap ∧ cap ≤ maxLen ∧
  c.length = cap * E.sz ∧ c.take (l.length * E.sz) = l.flatMap E.enc ∧ Blk w b c E.T
 st := by
  intro w w' hk h
  rcases h with h | ⟨b, cap, c, hv, h1, h2, h3, h4, hb⟩
  ·exact .inl h
  exact .inr ⟨b, cap, c, hv, h1, h2, h3, h4, (hk b ⟨_, _, hv⟩).trans hb⟩

theorem flatMap_enc_length {α : Type} (E : Elt α) (l : List α) : (l.flatMap E.enc).length = l.length * E.sz := by
 induction l with
 | nil => simp
 | cons a l ih => simp [ih, E.len, Nat.add_mul]; omega

theorem flatMap_enc_get {α : Type} (E : Elt α) : ∀ (l : List α) (i : Nat) (a : α) (j : Nat) (x : Value), l[i]? = some a → (E.enc a)[j]? = some x → (l.flatMap E.enc)[i * E.sz + j]? = some x := by
 intro l
 induction l with
 | nil => intro i a j x h; simp at h
 | cons a l ih =>
  intro i c j x h hx
  have hj : j < E.sz := by have := (List.getElem?_eq_some_iff.1 hx).1; rwa [E.len] at this
  rw [List.flatMap_cons]
  cases i with
  | zero =>
   simp at h; subst h
   rw [List.getElem?_append_left (by rw [E.len]; omega)]
   simpa using hx
  | succ i =>
   rw [List.getElem?_append_right (by rw [E.len, Nat.add_mul]; omega), E.len]
   have := ih i c j x (by simpa using h) hx
   rw [← this]
   congr 1
   rw [Nat.add_mul]; omega

theorem vec_rd {α : Type} {E : Elt α} {w : World} {v : Value} {l : List α} (h : (vec E v l).ok w) : Rd E w v l := by
 rcases h with ⟨hv, rfl⟩ | ⟨b, cap, c, hv, h1, h2, h3, h4, hb⟩
 ·exact ⟨none, 0, hv, Nat.le_refl _, fun i a h => by simp at h⟩
 refine ⟨_, cap, hv, h1, fun i a ha => ⟨b, 0, rfl, fun j x hx => hb.cell ?_⟩⟩
 have h5 := flatMap_enc_get E l i a j x ha hx
 rw [← h4, List.getElem?_take] at h5
 rw [Nat.zero_add]
 split at h5
 ·exact h5
 cases h5

end Go.Vk

namespace Go.Vk
open Go


def gOk (all : Array Oper) (n : Nat) (ρ : Env) : Option (Nat × Bool) → Bool
 | none => true
 | some (j, want) => match (all[j]?).bind (·.dst) with
  | some d => bif Nat.blt d n then (match ρ d with | .bool b => b == want | _ => false) else false
  | none => false

theorem wanted_gOk (all : Array Oper) (n : Nat) (ρ : Env) (ds : List Deferred) (o : Oper) : Region.wanted o (yielded all (mkA n ρ ds).tmps) = gOk all n ρ o.guard := by
 unfold Region.wanted gOk
 cases o.guard with
 | none => rfl
 | some g =>
  obtain ⟨j, want⟩ := g
  simp only [yielded]
  cases (all[j]?).bind (·.dst) with
  | none => rfl
  | some d =>
   by_cases h : d < n
   ·have hb : Nat.blt d n = true := by simpa using h
    simp only [Option.bind_some, mkA_get n ρ ds d h, hb, cond_true]
    cases ρ d <;> rfl
   have hb : Nat.blt d n = false := by
    cases e : Nat.blt d n with
    | false => rfl
    | true => exact absurd (Nat.blt_eq ▸ e) h
   have hg : (mkA n ρ ds).tmps[d]? = none := Array.getElem?_eq_none (by simpa [mkA] using h)
   simp [hb, hg]

def updO (d : Option Nat) (v : Value) (ρ : Env) : Env := match d with
 | some d => upd ρ d v
 | none => ρ

theorem mkA_putO (n : Nat) (ρ : Env) (ds : List Deferred) (d : Option Nat) (v : Value) : (mkA n ρ ds).put d v = mkA n (updO d v ρ) ds := by
 cases d with
 | none => rfl
 | some d => exact mkA_put n ρ ds d v

def RunL (P : Program) (b : Frame) (cs : List Frame) (fin : Machine → Prop) (n : Nat) (all : Array Oper) (l : List Oper) (k : List Item) (ρ : Env) (ds : List Deferred) (w : World) : Prop :=
 ∀ is : List Nat, is.map (fun i => all[i]?) = l.map some → Run P b cs fin n (.inRegion all is :: k) ρ ds w

section
variable {P : Program} {b : Frame} {cs : List Frame} {fin : Machine → Prop} {n : Nat} {all : Array Oper} {rest : List Oper} {k : List Item} {ρ : Env} {ds : List Deferred} {w w' : World}

theorem r_region {id : Nat} {ops : Array Oper} (h : RunL P b cs fin n ops ops.toList k ρ ds w) : Run P b cs fin n (.code (.region id ops false) :: k) ρ ds w := by
 refine Run.of_step stepR_region (h _ ?_)
 apply List.ext_getElem?
 intro i
 simp only [List.getElem?_map]
 by_cases hi : i < ops.size
 ·simp [hi]
 simp [hi]

theorem l_nil (h : Run P b cs fin n k ρ ds w) : RunL P b cs fin n all [] k ρ ds w := by
 intro is his
 have : is = [] := by cases is with
  | nil => rfl
  | cons i is => simp at his
 subst this
 exact h.of_step stepR_region_end

theorem is_cons {o : Oper} {is : List Nat} (h : is.map (fun i => all[i]?) = (o :: rest).map some) : ∃ i is', is = i :: is' ∧ all[i]? = some o ∧ is'.map (fun i => all[i]?) = rest.map some := by
 cases is with
 | nil => simp at h
 | cons i is => simp at h; exact ⟨i, is, rfl, h.1, h.2⟩

theorem l_pass {o : Oper} (hg : gOk all n ρ o.guard = false) (h : RunL P b cs fin n all rest k (updO o.dst undef ρ) ds w) : RunL P b cs fin n all (o :: rest) k ρ ds w := by
 intro is his
 obtain ⟨i, is', rfl, ho, his'⟩ := is_cons his
 have hs := stepR_op_skip (P := P) (b := b) (a := mkA n ρ ds) (k := k) (cs := cs) (w := w) (ops := all) (i := i) (rest := is') (by rw [ho]; simp [wanted_gOk, hg])
 rw [ho, Option.bind_some, mkA_putO] at hs
 exact (h is' his').of_step hs

theorem finish_mkA {o : Oper} {i : Nat} {is' : List Nat} (ho : all[i]? = some o) (v : Value) :
  (b.atR (mkA n ρ ds) (.inRegion all (i :: is') :: k)).finish v = b.atR (mkA n (updO o.dst v ρ) ds) (.inRegion all is' :: k) := by
 rw [Frame.finish_atR, ho, Option.bind_some, mkA_putO]

theorem l_value {o : Oper} {v : Value} (hg : gOk all n ρ o.guard = true) (hnd : ∀ c, o.op ≠ .defer c) (hr : (execOp (ev n ρ) o).run P w = .ok (.value v) w')
  (h : RunL P b cs fin n all rest k (updO o.dst v ρ) ds w') : RunL P b cs fin n all (o :: rest) k ρ ds w := by
 intro is his
 obtain ⟨i, is', rfl, ho, his'⟩ := is_cons his
 refine (h is' his').of_step (step_lone_go ?_)
 rw [stepGR_op ho (by rw [wanted_gOk]; exact hg), ← finish_mkA (b := b) (k := k) (n := n) (ρ := ρ) (ds := ds) (is' := is') ho, Oper.semAt_eq _ _ _ hnd, mkA_eval]
 simp [stepG.apply, hr]

theorem l_skip {o : Oper} (hg : gOk all n ρ o.guard = true) (hnd : ∀ c, o.op ≠ .defer c) (hr : (execOp (ev n ρ) o).run P w = .ok .skip w')
  (h : RunL P b cs fin n all rest k (updO o.dst undef ρ) ds w') : RunL P b cs fin n all (o :: rest) k ρ ds w := by
 intro is his
 obtain ⟨i, is', rfl, ho, his'⟩ := is_cons his
 refine (h is' his').of_step (step_lone_go ?_)
 rw [stepGR_op ho (by rw [wanted_gOk]; exact hg), ← finish_mkA (b := b) (k := k) (n := n) (ρ := ρ) (ds := ds) (is' := is') ho, Oper.semAt_eq _ _ _ hnd, mkA_eval]
 simp [stepG.apply, hr]

theorem l_enter {o : Oper} {f : FuncId} {args : Array Value} {R : Value → World → Prop} (hg : gOk all n ρ o.guard = true) (hnd : ∀ c, o.op ≠ .defer c)
  (hr : (execOp (ev n ρ) o).run P w = .ok (.enter f args) w') (hc : Cl P f args w' R)
  (h : ∀ v w'', R v w'' → RunL P b cs fin n all rest k (updO o.dst v ρ) ds w'') : RunL P b cs fin n all (o :: rest) k ρ ds w := by
 intro is his
 obtain ⟨i, is', rfl, ho, his'⟩ := is_cons his
 obtain ⟨e, w'', fr, ⟨v, rfl, hR⟩, hs, _, hl⟩ := hc (b.atR (mkA n ρ ds) (.inRegion all (i :: is') :: k) :: cs)
 have hent : step P (lone (b.atR (mkA n ρ ds) (.inRegion all (i :: is') :: k)) cs w) = .next (lone (Frame.enter P f args .normal) (b.atR (mkA n ρ ds) (.inRegion all (i :: is') :: k) :: cs) w') := by
  refine step_lone_go ?_
  rw [stepGR_op ho (by rw [wanted_gOk]; exact hg), Oper.semAt_eq _ _ _ hnd, mkA_eval]
  simp [stepG.apply, hr, Frame.atR]
 obtain ⟨m, hm, hf⟩ := h v w'' hR is' his'
 refine ⟨m, .head hent (Steps.trans hs (.head (step_leave_returned hl) ?_)), hf⟩
 rw [finish_mkA ho]
 exact hm

theorem l_split {l : List Oper} {d : Nat} {t : Bool} (hd : ρ d = .bool t) (ht : t = true → RunL P b cs fin n all l k (upd ρ d (.bool true)) ds w)
  (hf : t = false → RunL P b cs fin n all l k (upd ρ d (.bool false)) ds w) : RunL P b cs fin n all l k ρ ds w := by
 cases t
 ·have := hf rfl; rwa [upd_self hd] at this
 have := ht rfl; rwa [upd_self hd] at this
theorem l_splitd {l : List Oper} {d : Nat} {p : Prop} [Decidable p] (hd : ρ d = .bool (decide p)) (ht : p → RunL P b cs fin n all l k (upd ρ d (.bool true)) ds w)
  (hf : ¬ p → RunL P b cs fin n all l k (upd ρ d (.bool false)) ds w) : RunL P b cs fin n all l k ρ ds w :=
 l_split hd (fun h => ht (of_decide_eq_true h)) (fun h => hf (of_decide_eq_false h))

theorem r_slot (d : Nat) (v : Value) (hd : ρ d = v) (h : Run P b cs fin n k (upd ρ d v) ds w) : Run P b cs fin n k ρ ds w := by
 rwa [upd_self hd] at h

end


def X (P : Program) (E : Operand → Value) (op : Op) (ty : TypeId) (w : World) (v : Value) (w' : World) : Prop :=
 (∀ c, op ≠ .defer c) ∧ ∀ d pos af g, (execOp E ⟨d, op, ty, pos, af, g⟩).run P w = .ok (.value v) w'

section
variable {P : Program} {b : Frame} {cs : List Frame} {fin : Machine → Prop} {n : Nat} {all : Array Oper} {rest : List Oper} {k : List Item} {ρ : Env} {ds : List Deferred} {w w' : World}
 {d : Nat} {op : Op} {ty : TypeId} {pos : String} {af : Array Edge} {g : Option (Nat × Bool)} {v : Value}

theorem l_x (hg : gOk all n ρ g = true) (hx : X P (ev n ρ) op ty w v w') (h : RunL P b cs fin n all rest k (upd ρ d v) ds w') :
  RunL P b cs fin n all (⟨some d, op, ty, pos, af, g⟩ :: rest) k ρ ds w := l_value hg hx.1 (hx.2 ..) h
end

section
variable {P : Program} {E : Operand → Value} {w : World} {ty : TypeId} {x y : Operand} {T T' : TypeId} {a c : Int}

theorem x_move : X P E (.move x) ty w (E x) w := ⟨nofun, fun _ _ _ _ => rfl⟩
theorem x_assign : X P E (.assign x) ty w (E x) w := ⟨nofun, fun _ _ _ _ => rfl⟩
theorem x_mv {v : Value} (h : E x = v) : X P E (.move x) ty w v w := h ▸ x_move
theorem x_as {v : Value} (h : E x = v) : X P E (.assign x) ty w v w := h ▸ x_assign

theorem x_pick_t {z u : Operand} {v : Value} (h : E z = .bool true) (hv : E x = v) : X P E (.pick z x u) ty w v w := ⟨nofun, fun _ _ _ _ => by simp [execOp, h, asBool, hv, go_sem]⟩
theorem x_pick_f {z u : Operand} {v : Value} (h : E z = .bool false) (hv : E u = v) : X P E (.pick z x u) ty w v w := ⟨nofun, fun _ _ _ _ => by simp [execOp, h, asBool, hv, go_sem]⟩

def iop (op : BinOp) (k : IntKind) (a c : Int) : Option Value :=
 match op with
 | .add => some (.int k (k.wrap (a + c)))
 | .sub => some (.int k (k.wrap (a - c)))
 | .mul => some (.int k (k.wrap (a * c)))
 | .eql => some (.bool (a == c))
 | .neq => some (.bool (a != c))
 | .lss => some (.bool (decide (a < c)))
 | .leq => some (.bool (decide (a ≤ c)))
 | .gtr => some (.bool (decide (a > c)))
 | .geq => some (.bool (decide (a ≥ c)))
 | _ => none

theorem x_iop {op : BinOp} {k : IntKind} {v : Value} (hx : E x = .int k a) (hy : E y = .int k c) (hv : iop op k a c = some v) : X P E (.binOp op T x y T') ty w v w := by
 refine ⟨nofun, fun _ _ _ _ => ?_⟩
 cases op <;> simp [iop] at hv <;> subst hv <;> simp [execOp, hx, hy, binOp, eqGuard, Op.intArith, Op.intCmp, go_sem]

theorem x_add (hx : E x = .int .i64 a) (hy : E y = .int .i64 c) (hb : -9223372036854775808 ≤ a + c ∧ a + c ≤ 9223372036854775807) : X P E (.binOp .add T x y T') ty w (.int .i64 (a + c)) w :=
 x_iop hx hy (by simp only [iop]; rw [IntWalk.i64_in _ hb])
theorem x_sub (hx : E x = .int .i64 a) (hy : E y = .int .i64 c) (hb : -9223372036854775808 ≤ a - c ∧ a - c ≤ 9223372036854775807) : X P E (.binOp .sub T x y T') ty w (.int .i64 (a - c)) w :=
 x_iop hx hy (by simp only [iop]; rw [IntWalk.i64_in _ hb])
theorem x_mul (hx : E x = .int .i64 a) (hy : E y = .int .i64 c) (hb : -9223372036854775808 ≤ a * c ∧ a * c ≤ 9223372036854775807) : X P E (.binOp .mul T x y T') ty w (.int .i64 (a * c)) w :=
 x_iop hx hy (by simp only [iop]; rw [IntWalk.i64_in _ hb])
theorem x_lss {k : IntKind} (hx : E x = .int k a) (hy : E y = .int k c) : X P E (.binOp .lss T x y T') ty w (.bool (decide (a < c))) w := x_iop hx hy rfl
theorem x_leq {k : IntKind} (hx : E x = .int k a) (hy : E y = .int k c) : X P E (.binOp .leq T x y T') ty w (.bool (decide (a ≤ c))) w := x_iop hx hy rfl
theorem x_gtr {k : IntKind} (hx : E x = .int k a) (hy : E y = .int k c) : X P E (.binOp .gtr T x y T') ty w (.bool (decide (c < a))) w := x_iop hx hy rfl
theorem x_geq {k : IntKind} (hx : E x = .int k a) (hy : E y = .int k c) : X P E (.binOp .geq T x y T') ty w (.bool (decide (c ≤ a))) w := x_iop hx hy rfl
theorem x_eql {k : IntKind} (hx : E x = .int k a) (hy : E y = .int k c) : X P E (.binOp .eql T x y T') ty w (.bool (decide (a = c))) w := x_iop hx hy rfl
theorem x_neq {k : IntKind} (hx : E x = .int k a) (hy : E y = .int k c) : X P E (.binOp .neq T x y T') ty w (.bool (decide (a ≠ c))) w :=
 x_iop hx hy (by simp only [iop]; congr 2; rw [Bool.eq_iff_iff]; simp)

theorem x_quo (hx : E x = .int .i64 a) (hy : E y = .int .i64 c) (hb : 0 ≤ a ∧ 0 < c ∧ a ≤ 9223372036854775807) : X P E (.binOp .quo T x y T') ty w (.int .i64 (a / c)) w := by
 refine ⟨nofun, fun _ _ _ _ => ?_⟩
 have h0 : c ≠ 0 := by omega
 have e : IntKind.i64.wrap (a.tdiv c) = a / c := by
  rw [Int.tdiv_eq_ediv_of_nonneg hb.1]
  have h1 : a / c ≤ a := Int.ediv_le_self _ hb.1
  have h2 : 0 ≤ a / c := Int.ediv_nonneg hb.1 (by omega)
  exact IntWalk.i64_in _ (by omega)
 simp [execOp, hx, hy, binOp, eqGuard, Op.intDiv, go_sem, h0, e]
theorem x_rem (hx : E x = .int .i64 a) (hy : E y = .int .i64 c) (hb : 0 ≤ a ∧ 0 < c) : X P E (.binOp .rem T x y T') ty w (.int .i64 (a % c)) w := by
 refine ⟨nofun, fun _ _ _ _ => ?_⟩
 have h0 : c ≠ 0 := by omega
 have e : a.tmod c = a % c := Int.tmod_eq_emod_of_nonneg hb.1
 simp [execOp, hx, hy, binOp, eqGuard, Op.intDiv, go_sem, h0, e]

theorem x_not {t : Bool} (hx : E x = .bool t) : X P E (.unOp .not T x) ty w (.bool !t) w := ⟨nofun, fun _ _ _ _ => by simp [execOp, hx, Op.unary, go_sem]⟩
theorem x_extract {vs : Array Value} {i : Nat} {v : Value} (hx : E x = .tuple vs) (hi : vs[i]? = some v) : X P E (.extract x i) ty w v w :=
 ⟨nofun, fun _ _ _ _ => by simp [execOp, hx, Instr.extract, hi, go_sem]⟩
theorem x_nilCheck {a : Addr} (hx : E x = .pointer (some a)) : X P E (.nilCheck x) ty w (.pointer (some a)) w :=
 ⟨nofun, fun _ _ _ _ => by simp [execOp, hx, go_sem]⟩


def Ld (P : Program) (T : TypeId) (a : Addr) (w : World) (v : Value) : Prop := (loadVar T a).run P w = .ok v w

theorem x_load {a : Addr} {v : Value} (hx : E x = .pointer (some a)) (h : Ld P T a w v) : X P E (.load T x) ty w v w :=
 ⟨nofun, fun _ _ _ _ => by
  unfold Ld at h
  simp only [execOp, hx, Instr.loadAt, Instr.sureAddr, Sem.run_bind, Sem.run_pure, Result.andThen_ok, h]⟩

theorem ld_cell {a : Addr} {v : Value} (hA : ∀ w, (isAgg T).run P w = .ok false w) (h : w.cell? a = some v) : Ld P T a w v := by
 unfold Ld loadVar
 simp [go_sem, hA, h]

theorem addr_add (b o j : Nat) : (⟨b, o, none⟩ : Addr).add j = ⟨b, o + j, none⟩ := by
 unfold Addr.add
 split
 ·rename_i h; subst h; rfl
 rfl

theorem ld_row {b o s : Nat} {c : List Value} (hA : ∀ w, (isAgg T).run P w = .ok true w) (hS : ∀ w, (sizeOf T).run P w = .ok s w) (hl : c.length = s) (h : Row w b o c) :
  Ld P T ⟨b, o, none⟩ w (.agg c.toArray) := by
 have := run_loadCells_list (P := P) w ⟨b, o, none⟩ c (fun j v hj => by rw [addr_add]; exact h j v hj)
 subst hl
 unfold Ld loadVar
 simp only [Sem.run_bind, hA, Result.andThen_ok, if_true, hS, this, Sem.run_pure]

theorem Blk.row {w : World} {b : Nat} {c : List Value} {T : TypeId} (h : Blk w b c T) : Row w b 0 c := fun j x hx => by rw [Nat.zero_add]; exact h.cell hx
theorem Blk.rowAt {w : World} {b : Nat} {c : List Value} {T : TypeId} (h : Blk w b c T) {o : Nat} {c' : List Value} (hc : ∀ j x, c'[j]? = some x → c[o + j]? = some x) : Row w b o c' :=
 fun j x hx => h.cell (hc j x hx)

theorem ld_blk {b o : Nat} {c : List Value} {T0 : TypeId} {v : Value} (h : Blk w b c T0) (hA : ∀ w, (isAgg T).run P w = .ok false w) (hv : c[o]? = some v) : Ld P T ⟨b, o, none⟩ w v :=
 ld_cell hA (h.cell hv)
theorem ld_blks {b o s : Nat} {c c' : List Value} {T0 : TypeId} (h : Blk w b c T0) (hA : ∀ w, (isAgg T).run P w = .ok true w) (hS : ∀ w, (sizeOf T).run P w = .ok s w) (hc : (c.drop o).take s = c') (hl : c'.length = s) :
  Ld P T ⟨b, o, none⟩ w (.agg c'.toArray) := by
 refine ld_row hA hS hl (h.rowAt fun j x hx => ?_)
 subst hc
 rw [List.getElem?_take] at hx
 split at hx
 ·rw [List.getElem?_drop] at hx; exact hx
 cases hx

theorem x_fieldAddr {b o : Nat} {i : Nat} {fs : Array Field} {f : Field} {s : Nat} (hx : E x = .pointer (some ⟨b, o, none⟩)) (hu : ∀ w, (underlying T).run P w = .ok (.struct fs) w) (hf : fs[i]? = some f)
  (hs : ∀ w, (sizeOf f.type).run P w = .ok s w) (h0 : s ≠ 0) : X P E (.fieldAddr T x i) ty w (.pointer (some ⟨b, o + f.offset, none⟩)) w :=
 ⟨nofun, fun _ _ _ _ => by simp [execOp, hx, Instr.fieldAt, Instr.sureAddr, go_sem, hu, hf, fieldPlace, hs, h0, addr_add]⟩

theorem x_indexAddr_slice {b o len cap s : Nat} {i : Int} {e : TypeId} (hx : E x = .slice (some ⟨b, o, none⟩) len cap) (hy : E y = .int .i64 i) (hu : ∀ w, (underlying T).run P w = .ok (.slice e) w)
  (hs : ∀ w, (sizeOf e).run P w = .ok s w) (hb : 0 ≤ i ∧ i < len) : X P E (.indexAddr T x y) ty w (.pointer (some ⟨b, o + i.toNat * s, none⟩)) w :=
 ⟨nofun, fun _ _ _ _ => by simp [execOp, hx, hy, Instr.indexAt, asIntOf, go_sem, hu, hs, hb, addr_add]⟩

theorem x_indexAddr_array {b o len s : Nat} {i : Int} {e : TypeId} (hx : E x = .pointer (some ⟨b, o, none⟩)) (hy : E y = .int .i64 i) (hu : ∀ w, (underlying T).run P w = .ok (.array len e) w)
  (hs : ∀ w, (sizeOf e).run P w = .ok s w) (hb : 0 ≤ i ∧ i < len) : X P E (.indexAddr T x y) ty w (.pointer (some ⟨b, o + i.toNat * s, none⟩)) w :=
 ⟨nofun, fun _ _ _ _ => by simp [execOp, hx, hy, Instr.indexAt, Instr.sureAddr, asIntOf, go_sem, hu, hs, hb, addr_add]⟩

theorem x_len_slice {p : Option Addr} {len cap : Nat} {e : TypeId} {A : TypeId} (hx : E x = .slice p len cap) (hu : ∀ w, (underlying A).run P w = .ok (.slice e) w) :
  X P E (.call ⟨.builtin .len, #[x], #[A]⟩) ty w (.int .i64 len) w :=
 ⟨nofun, fun _ _ _ _ => by simp [execOp, hx, resolve, invoke, builtin, Builtin.len_, go_sem, hu, goInt]⟩

def At {α : Type} (E : Elt α) (v : Value) (i : Nat) (a : Addr) : Prop := ∃ b o len cap, v = .slice (some ⟨b, o, none⟩) len cap ∧ a = ⟨b, o + i * E.sz, none⟩

theorem x_indexAddr {α : Type} {L : Elt α} {v : Value} {l : List α} {i : Int} {q : α} (hr : Rd L w v l) (hx : E x = v) (hy : E y = .int .i64 i) (hu : ∀ w, (underlying T).run P w = .ok (.slice L.T) w)
  (hs : ∀ w, (sizeOf L.T).run P w = .ok L.sz w) (hb : 0 ≤ i) (hi : l[i.toNat]? = some q) : ∃ a, At L v i.toNat a ∧ Row w a.block a.off (L.enc q) ∧ a.spot = none ∧ X P E (.indexAddr T x y) ty w (.pointer (some a)) w := by
 obtain ⟨p, cap, rfl, hc, h⟩ := hr
 obtain ⟨b, o, rfl, hrow⟩ := h i.toNat q hi
 have hlt : i.toNat < l.length := (List.getElem?_eq_some_iff.1 hi).1
 exact ⟨⟨b, o + i.toNat * L.sz, none⟩, ⟨b, o, _, _, rfl, rfl⟩, hrow, rfl, x_indexAddr_slice hx hy hu hs ⟨hb, by omega⟩⟩

end

section
variable {P : Program} {b : Frame} {cs : List Frame} {fin : Machine → Prop} {n : Nat} {all : Array Oper} {rest : List Oper} {k : List Item} {ρ : Env} {ds : List Deferred} {w w' : World}
 {d : Nat} {ty : TypeId} {pos : String} {af : Array Edge} {g : Option (Nat × Bool)} {T : TypeId} {x y : Operand}

theorem l_index {α : Type} (L : Elt α) {v : Value} {l : List α} {i : Int} {q : α} (hg : gOk all n ρ g = true) (hr : Rd L w v l) (hx : ev n ρ x = v) (hy : ev n ρ y = .int .i64 i)
  (hu : ∀ w, (underlying T).run P w = .ok (.slice L.T) w) (hs : ∀ w, (sizeOf L.T).run P w = .ok L.sz w) (hb : 0 ≤ i) (hi : l[i.toNat]? = some q)
  (h : ∀ b' o', At L v i.toNat ⟨b', o', none⟩ → Row w b' o' (L.enc q) → RunL P b cs fin n all rest k (upd ρ d (.pointer (some ⟨b', o', none⟩))) ds w) :
  RunL P b cs fin n all (⟨some d, .indexAddr T x y, ty, pos, af, g⟩ :: rest) k ρ ds w := by
 obtain ⟨⟨b', o', sp⟩, h1, h2, h3, h4⟩ := x_indexAddr (E := ev n ρ) (ty := ty) hr hx hy hu hs hb hi
 cases h3
 exact l_x hg h4 (h b' o' h1 h2)

theorem run_newVar {T : TypeId} {v : Value} : (newVar T v).run P w = .ok ⟨w.heap.size, 0, none⟩ (w.alloc (.cells v.cells T)) := by
 simp [newVar, newRow, go_sem]

theorem l_box {X : Nat → Prop} {w0 : World} {L : List Rsc} {c : List Value} (S : Own X w0 w L) (hg : gOk all n ρ g = true) (hx : (ev n ρ x).cells = c.toArray)
  (h : ∀ b' w', Own X w0 w' (L ++ [blk b' c T]) → Le w w' → RunL P b cs fin n all rest k (upd ρ d (.pointer (some ⟨b', 0, none⟩))) ds w') :
  RunL P b cs fin n all (⟨some d, .box T x, ty, pos, af, g⟩ :: rest) k ρ ds w := by
 refine l_x hg (v := .pointer (some ⟨w.heap.size, 0, none⟩)) (w' := w.alloc (.cells c.toArray T (0, 0))) ⟨nofun, fun _ _ _ _ => ?_⟩ (h _ _ (S.alloc c T) (Le.alloc_cells _ _ _))
 simp only [execOp, Instr.box, Sem.run_bind, run_newVar, Result.andThen_ok, Sem.run_pure, hx]

theorem l_alloc {X : Nat → Prop} {w0 : World} {L : List Rsc} {c : List Value} {z : Value} (S : Own X w0 w L) (hg : gOk all n ρ g = true) (hz : ∀ w, (zeroValue T).run P w = .ok z w) (hx : z.cells = c.toArray)
  (h : ∀ b' w', Own X w0 w' (L ++ [blk b' c T]) → Le w w' → RunL P b cs fin n all rest k (upd ρ d (.pointer (some ⟨b', 0, none⟩))) ds w') :
  RunL P b cs fin n all (⟨some d, .alloc T, ty, pos, af, g⟩ :: rest) k ρ ds w := by
 refine l_x hg (v := .pointer (some ⟨w.heap.size, 0, none⟩)) (w' := w.alloc (.cells c.toArray T (0, 0))) ⟨nofun, fun _ _ _ _ => ?_⟩ (h _ _ (S.alloc c T) (Le.alloc_cells _ _ _))
 simp only [execOp, Instr.alloc, Sem.run_bind, hz, run_newVar, Result.andThen_ok, Sem.run_pure, hx]

def splice (c : List Value) (o : Nat) (vs : List Value) : List Value := c.take o ++ vs ++ c.drop (o + vs.length)

theorem splice_one {c : List Value} {o : Nat} {v : Value} (h : o < c.length) : splice c o [v] = c.set o v := by
 rw [splice, List.set_eq_take_append_cons_drop, if_pos h]; simp
theorem splice_all {c vs : List Value} (h : c.length = vs.length) : splice c 0 vs = vs := by
 rw [splice, Nat.zero_add, ← h]; simp
theorem splice_length {c vs : List Value} {o : Nat} (h : o + vs.length ≤ c.length) : (splice c o vs).length = c.length := by
 simp only [splice, List.length_append, List.length_take, List.length_drop]; omega

theorem Keep.setRow {b' : Nat} (w : World) (cs' : Array Value) : Keep (· = b') w (w.setRow b' cs') :=
 ⟨rfl, rfl, rfl, by simp, fun i _ h => setRow_other w b' i _ h, Nat.le_refl _⟩

theorem Own.setRow {X : Nat → Prop} {w0 : World} {L : List Rsc} {b' : Nat} {c : List Value} {T0 : TypeId} (S : Own X w0 w L) (j : Nat) (hj : L[j]? = some (Vk.blk b' c T0)) (c' : List Value) :
  Own X w0 (w.setRow b' c'.toArray) (L.set j (Vk.blk b' c' T0)) :=
 S.turn j hj (Keep.setRow w _) (fun _ _ h => h) (setRow_heap w b' _ c'.toArray T0 _ (S.blk j hj)) (fun _ h => .inl h)

theorem l_stores {X : Nat → Prop} {w0 : World} {L : List Rsc} {b' o : Nat} {c vs c' : List Value} {T0 : TypeId} {d' : Option Nat} (S : Own X w0 w L) (j : Nat) (hj : L[j]? = some (blk b' c T0)) (hg : gOk all n ρ g = true)
  (hx : ev n ρ x = .pointer (some ⟨b', o, none⟩)) (hy : (ev n ρ y).cells = vs.toArray) (h1 : ∀ v ∈ vs, v.oneCell' = true) (hs : ∀ w, (sizeOf T).run P w = .ok vs.length w) (ho : o + vs.length ≤ c.length)
  (hc : splice c o vs = c')
  (h : ∀ w', Own X w0 w' (L.set j (blk b' c' T0)) → Keep (· = b') w w' → RunL P b cs fin n all rest k (updO d' undef ρ) ds w') :
  RunL P b cs fin n all (⟨d', .store T x y, ty, pos, af, g⟩ :: rest) k ρ ds w := by
 subst hc
 refine l_skip hg nofun (w' := w.setRow b' (splice c o vs).toArray) ?_ (h _ (S.setRow j hj _) (Keep.setRow w _))
 have hr := run_storeCells_at P b' o T0 vs 0 c.toArray w (S.blk j hj) (by simpa using ho) h1
 simp only [execOp, hx, Instr.storeAt, Instr.sureAddr, Sem.run_bind, Sem.run_pure, Result.andThen_ok, storeVar, hs]
 rw [hy]
 simp only [List.size_toArray, ne_eq, not_true_eq_false, if_false]
 rw [hr]
 simp only [Result.andThen_ok, Nat.add_zero]
 rfl

theorem l_store {X : Nat → Prop} {w0 : World} {L : List Rsc} {b' o : Nat} {c : List Value} {T0 : TypeId} {v : Value} {d' : Option Nat} (S : Own X w0 w L) (j : Nat) (hj : L[j]? = some (blk b' c T0)) (hg : gOk all n ρ g = true)
  (hx : ev n ρ x = .pointer (some ⟨b', o, none⟩)) (hy : ev n ρ y = v) (h1 : v.oneCell' = true) (hs : ∀ w, (sizeOf T).run P w = .ok 1 w) (ho : o < c.length)
  (h : ∀ w', Own X w0 w' (L.set j (blk b' (c.set o v) T0)) → Keep (· = b') w w' → RunL P b cs fin n all rest k (updO d' undef ρ) ds w') :
  RunL P b cs fin n all (⟨d', .store T x y, ty, pos, af, g⟩ :: rest) k ρ ds w := by
 have hcs : v.cells = #[v] := by cases v <;> first | rfl | simp [Value.oneCell'] at h1
 exact l_stores S j hj hg hx (vs := [v]) (by rw [hy, hcs]) (by simpa using h1) hs (by simp only [List.length_singleton]; omega) (splice_one ho) h

end

section
variable {P : Program} {b : Frame} {cs : List Frame} {fin : Machine → Prop} {n : Nat} {all : Array Oper} {rest : List Oper} {k : List Item} {ρ : Env} {ds : List Deferred} {w : World} {d : Nat} {ty : TypeId} {pos : String} {af : Array Edge} {g : Option (Nat × Bool)} {x : Operand}
theorem l_m (hg : gOk all n ρ g = true) (h : RunL P b cs fin n all rest k (upd ρ d (ev n ρ x)) ds w) : RunL P b cs fin n all (⟨some d, .move x, ty, pos, af, g⟩ :: rest) k ρ ds w := l_x hg x_move h
theorem l_a (hg : gOk all n ρ g = true) (h : RunL P b cs fin n all rest k (upd ρ d (ev n ρ x)) ds w) : RunL P b cs fin n all (⟨some d, .assign x, ty, pos, af, g⟩ :: rest) k ρ ds w := l_x hg x_assign h
end
end Go.Vk

namespace Go.Vk
open Go

def Sp (P : Program) (all : Array Oper) (n : Nat) (ρ : Env) (o : Oper) (w : World) (Φ : Value → World → Prop) : Prop :=
 if gOk all n ρ o.guard = true then
  (∀ c, o.op ≠ .defer c) ∧ ((∃ v w', (execOp (ev n ρ) o).run P w = .ok (.value v) w' ∧ Φ v w') ∨ (∃ f args w', (execOp (ev n ρ) o).run P w = .ok (.enter f args) w' ∧ Cl P f args w' Φ) ∨ (∃ w', (execOp (ev n ρ) o).run P w = .ok .skip w' ∧ Φ undef w'))
 else Φ undef w

theorem Sp.mono {P : Program} {all : Array Oper} {n : Nat} {ρ : Env} {o : Oper} {w : World} {Φ Ψ : Value → World → Prop} (h : Sp P all n ρ o w Φ) (hm : ∀ v w', Φ v w' → Ψ v w') : Sp P all n ρ o w Ψ := by
 unfold Sp at *
 split
 ·rename_i hg
  rw [if_pos hg] at h
  refine ⟨h.1, h.2.imp (fun ⟨v, w', h1, h2⟩ => ⟨v, w', h1, hm _ _ h2⟩) (fun h => h.imp (fun ⟨f, args, w', h1, h2⟩ => ⟨f, args, w', h1, h2.mono hm⟩) (fun ⟨w', h1, h2⟩ => ⟨w', h1, hm _ _ h2⟩))⟩
 rename_i hg
 rw [if_neg hg] at h
 exact hm _ _ h

def looks (all : Array Oper) (o : Oper) : List Nat :=
  (o.op.operands.toList.filterMap fun | .tmp t => some t | _ => none) ++
  (match o.guard with
   | some (g, _) => ((all[g]?).bind (·.dst)).toList
   | none => [])

theorem ev_upd {n : Nat} {ρ : Env} {d : Nat} {v : Value} {x : Operand} (h : x ≠ .tmp d) : ev n (upd ρ d v) x = ev n ρ x := by
 cases x with
 | tmp t =>
  have : t ≠ d := fun e => h (by rw [e])
  simp only [ev, upd_other this]
 | _ => rfl

theorem gOk_updO {all : Array Oper} {n : Nat} {ρ : Env} {o : Oper} {dst : Option Nat} {v : Value} (h : ∀ d, dst = some d → d ∉ looks all o) : gOk all n (updO dst v ρ) o.guard = gOk all n ρ o.guard := by
 cases dst with
 | none => rfl
 | some d =>
  have hd := h d rfl
  unfold gOk
  cases hg : o.guard with
  | none => rfl
  | some g =>
   obtain ⟨j, want⟩ := g
   cases hj : (all[j]?).bind (·.dst) with
   | none => simp only [hj]
   | some t =>
    have hne : t ≠ d := fun e => hd (by simp [looks, hg, hj, e])
    simp only [hj, updO, upd_other hne]

theorem exec_updO {all : Array Oper} {n : Nat} {ρ : Env} {o : Oper} {dst : Option Nat} {v : Value} (hs : ∀ cs b, o.op ≠ .select cs b) (h : ∀ d, dst = some d → d ∉ looks all o) :
  execOp (ev n (updO dst v ρ)) o = execOp (ev n ρ) o := by
 cases dst with
 | none => rfl
 | some d =>
  refine execOp_congr o hs fun x hx => ev_upd fun e => h d rfl ?_
  exact List.mem_append_left _ (List.mem_filterMap.2 ⟨x, by simpa using hx, by rw [e]⟩)

theorem Sp.congr {P : Program} {all : Array Oper} {n : Nat} {ρ : Env} {o : Oper} {w : World} {Φ : Value → World → Prop} {dst : Option Nat} {v : Value} (hs : ∀ cs b, o.op ≠ .select cs b)
  (hd : ∀ d, dst = some d → d ∉ looks all o) : Sp P all n (updO dst v ρ) o w Φ ↔ Sp P all n ρ o w Φ := by
 unfold Sp
 rw [gOk_updO hd, exec_updO hs hd]

theorem updO_comm (ρ : Env) {d e : Option Nat} (v u : Value) (h : ∀ t, d = some t → e ≠ some t) : updO e u (updO d v ρ) = updO d v (updO e u ρ) := by
 cases d with
 | none => rfl
 | some d =>
  cases e with
  | none => rfl
  | some e =>
   have hne : d ≠ e := fun q => h d rfl (by rw [q])
   funext t
   simp only [updO]
   by_cases h1 : t = d
   ·subst h1; rw [upd_same, upd_other hne, upd_same]
   by_cases h2 : t = e
   ·subst h2; rw [upd_same, upd_other h1, upd_same]
   rw [upd_other h2, upd_other h1, upd_other h1, upd_other h2]

def isSel (o : Oper) : Bool := match o.op with | .select _ _ => true | _ => false
theorem not_sel {o : Oper} (h : isSel o = false) : ∀ cs b, o.op ≠ .select cs b := fun cs b e => by simp [isSel, e] at h

def waits (o : Oper) : List Nat := (o.after.toList.filter fun e => Region.binds .any e).map (·.on)

def anc (ops : Array Oper) : Nat → Nat → List Nat
 | 0, _ => []
 | f + 1, i => match ops[i]? with
  | some o => (waits o).flatMap fun j => j :: anc ops f j
  | none => []

def apartB (ops : Array Oper) (x y : Oper) : Bool :=
  (match x.dst with
   | some d => !(looks ops y).contains d && y.dst != some d
   | none => true) &&
  (match y.dst with
   | some d => !(looks ops x).contains d
   | none => true)

def drawOk (ops : Array Oper) (m : Nat) : Bool :=
 decide (m ≤ ops.size) &&
 ((List.range ops.size).all fun i => match ops[i]? with | some o => (waits o).all (fun j => decide (j < i)) && !isSel o | none => false) &&
 ((List.range ops.size).all fun j => decide (j < m) || (List.range j).all fun i => (anc ops (ops.size + 1) j).contains i) &&
 ((List.range m).all fun i => (List.range m).all fun j => i == j || match ops[i]?, ops[j]? with
  | some x, some y => (waits y).contains i || (waits x).contains j || apartB ops x y
  | _, _ => false)

structure DrawOk (ops : Array Oper) (m : Nat) : Prop where
 le : m ≤ ops.size
 back : ∀ (i : Nat) (o : Oper), ops[i]? = some o → ∀ j ∈ waits o, j < i
 sel : ∀ (i : Nat) (o : Oper), ops[i]? = some o → isSel o = false
 tail : ∀ j, m ≤ j → j < ops.size → ∀ i, i < j → i ∈ anc ops (ops.size + 1) j
 apart : ∀ (i j : Nat) (x y : Oper), i < m → j < m → i ≠ j → ops[i]? = some x → ops[j]? = some y → i ∈ waits y ∨ j ∈ waits x ∨ apartB ops x y = true

theorem drawOk_spec {ops : Array Oper} {m : Nat} (h : drawOk ops m = true) : DrawOk ops m := by
 simp only [drawOk, Bool.and_eq_true, decide_eq_true_eq, List.all_eq_true, List.mem_range, Bool.or_eq_true] at h
 obtain ⟨⟨⟨h1, h2⟩, h3⟩, h4⟩ := h
 refine ⟨h1, ?_, ?_, ?_, ?_⟩
 ·intro i o ho j hj
  have hi : i < ops.size := (Array.getElem?_eq_some_iff.1 ho).1
  have := h2 i hi
  rw [ho] at this
  simp only [Bool.and_eq_true, List.all_eq_true, decide_eq_true_eq] at this
  exact this.1 j hj
 ·intro i o ho
  have hi : i < ops.size := (Array.getElem?_eq_some_iff.1 ho).1
  have := h2 i hi
  rw [ho] at this
  simpa using (Bool.and_eq_true_iff.1 this).2
 ·intro j hmj hj i hi
  rcases h3 j hj with h | h
  ·omega
  simpa using h i hi
 intro i j x y hi hj hne hx hy
 have := h4 i hi j hj
 rw [hx, hy] at this
 rcases this with h | h
 ·simp at h; exact absurd h hne
 simp only [Bool.or_eq_true, List.contains_iff_mem] at h
 rcases h with (h | h) | h
 ·exact .inl h
 ·exact .inr (.inl h)
 exact .inr (.inr h)

theorem apartB_spec {ops : Array Oper} {x y : Oper} (h : apartB ops x y = true) :
  (∀ d, x.dst = some d → d ∉ looks ops y) ∧ (∀ d, x.dst = some d → y.dst ≠ some d) ∧ (∀ d, y.dst = some d → d ∉ looks ops x) := by
 refine ⟨fun d hd => ?_, fun d hd => ?_, fun d hd => ?_⟩ <;> simp [apartB, hd] at h
 ·exact h.1.1
 ·exact h.1.2
 exact h.2

def rdy (ops : Array Oper) (listed : Array Bool) (i : Nat) : Bool :=
 !listed.getD i true && match ops[i]? with | some o => (waits o).all fun j => listed.getD j false | none => false

theorem mem_ready_iff {ops : Array Oper} {listed : Array Bool} {i : Nat} : i ∈ Region.ready .any ops listed ↔ rdy ops listed i = true := by
 rw [mem_ready]
 unfold rdy
 cases ho : ops[i]? with
 | none => simp
 | some o =>
  simp only [Option.some.injEq, exists_eq_left', Bool.and_eq_true, Bool.not_eq_true', List.all_eq_true, waits, List.mem_map, List.mem_filter, Array.mem_toList_iff]
  constructor
  ·rintro ⟨h1, h2⟩
   exact ⟨h1, fun j ⟨e, ⟨he, hb⟩, hj⟩ => hj ▸ h2 e he hb⟩
  rintro ⟨h1, h2⟩
  exact ⟨h1, fun e he hb => h2 e.on ⟨e, ⟨he, hb⟩, rfl⟩⟩

section
variable {P : Program} {b : Frame} {cs : List Frame} {fin : Machine → Prop} {n : Nat} {k : List Item} {ρ : Env} {ds : List Deferred} {w w' : World} {ops : Array Oper} {m : Nat}

def AnyC (P : Program) (n : Nat) (ops : Array Oper) (m : Nat) (K : Env → World → Prop) : Nat → Array Bool → Env → World → Prop
 | 0, listed, ρ, w => ∀ w1, Le w w1 → ((∀ i, i < m → listed.getD i true = true) → K ρ w1) ∧ ∀ (i : Nat), i < m → rdy ops listed i = false
 | f + 1, listed, ρ, w => ∀ w1, Le w w1 → ((∀ i, i < m → listed.getD i true = true) → K ρ w1) ∧ ∀ (i : Nat) (o : Oper), i < m → ops[i]? = some o → rdy ops listed i = true →
   Sp P ops n ρ o w1 fun v w2 => Le w1 w2 ∧ AnyC P n ops m K f (listed.setIfInBounds i true) (updO o.dst v ρ) w2

theorem AnyC.le {K : Env → World → Prop} {f : Nat} {listed : Array Bool} (h : AnyC P n ops m K f listed ρ w) (hw : Le w w') : AnyC P n ops m K f listed ρ w' := by
 cases f with
 | zero => exact fun w'' h' => h w'' (hw.trans h')
 | succ f => exact fun w1 h1 => h w1 (hw.trans h1)

theorem AnyC.done {K : Env → World → Prop} {f : Nat} {listed : Array Bool} (h : AnyC P n ops m K f listed ρ w) (hl : ∀ i, i < m → listed.getD i true = true) : K ρ w := by
 cases f with
 | zero => exact (h w (Le.refl w)).1 hl
 | succ f => exact (h w (Le.refl w)).1 hl

theorem AnyC.next {K : Env → World → Prop} {f : Nat} {listed : Array Bool} {i : Nat} {o : Oper} (h : AnyC P n ops m K f listed ρ w) (hi : i < m) (ho : ops[i]? = some o) (hr : rdy ops listed i = true) :
  ∃ g, Sp P ops n ρ o w fun v w2 => Le w w2 ∧ AnyC P n ops m K g (listed.setIfInBounds i true) (updO o.dst v ρ) w2 := by
 cases f with
 | zero => have := (h w (Le.refl w)).2 i hi; rw [hr] at this; cases this
 | succ f => exact ⟨f, (h w (Le.refl w)).2 i o hi ho hr⟩

theorem getD_set_other {listed : Array Bool} {i j : Nat} {dflt : Bool} (h : i ≠ j) : (listed.setIfInBounds i true).getD j dflt = listed.getD j dflt := by
 simp [Array.getD_eq_getD_getElem?, Array.getElem?_setIfInBounds_ne h]
theorem getD_set_mono {listed : Array Bool} {i j : Nat} {dflt : Bool} (h : listed.getD j dflt = true) : (listed.setIfInBounds i true).getD j dflt = true := by
 by_cases e : i = j
 ·subst e
  rcases Nat.lt_or_ge i listed.size with h' | h'
  ·simp [h']
  simp [Array.getElem?_eq_none h'] at h ⊢; exact .inr h
 rw [getD_set_other e]; exact h
theorem getD_both {listed : Array Bool} {i : Nat} (h : listed.getD i true = false) : listed.getD i false = false := by
 rcases Nat.lt_or_ge i listed.size with h' | h'
 ·simp [h'] at h ⊢; exact h
 simp [Array.getElem?_eq_none h'] at h

theorem rdy_spec {listed : Array Bool} {i : Nat} (h : rdy ops listed i = true) : listed.getD i true = false ∧ ∃ o, ops[i]? = some o ∧ ∀ j ∈ waits o, listed.getD j false = true := by
 unfold rdy at h
 simp only [Bool.and_eq_true, Bool.not_eq_true'] at h
 refine ⟨h.1, ?_⟩
 cases ho : ops[i]? with
 | none => rw [ho] at h; simp at h
 | some o => rw [ho] at h; exact ⟨o, rfl, by simpa using h.2⟩

theorem rdy_mk {listed : Array Bool} {i : Nat} {o : Oper} (h : listed.getD i true = false) (ho : ops[i]? = some o) (hw : ∀ j ∈ waits o, listed.getD j false = true) : rdy ops listed i = true := by
 unfold rdy
 rw [ho, h]
 simpa using hw

theorem rdy_other {listed : Array Bool} {i j : Nat} (hne : j ≠ i) (h : rdy ops listed j = true) : rdy ops (listed.setIfInBounds i true) j = true := by
 obtain ⟨h1, o, ho, h2⟩ := rdy_spec h
 exact rdy_mk (by rw [getD_set_other (Ne.symm hne)]; exact h1) ho fun x hx => getD_set_mono (h2 x hx)

def Rigid (P : Program) (ops : Array Oper) (n : Nat) (ρ : Env) (o : Oper) (w : World) (v : Value) : Prop := ∀ w1, Le w w1 → Sp P ops n ρ o w1 fun u w2 => u = v ∧ Le w1 w2

theorem Rigid.le {o : Oper} {v : Value} (h : Rigid P ops n ρ o w v) (hw : Le w w') : Rigid P ops n ρ o w' v := fun w1 h1 => h w1 (hw.trans h1)

theorem AnyC.first {K : Env → World → Prop} {i : Nat} {oi : Oper} {v : Value} (hok : DrawOk ops m) (hi : ops[i]? = some oi) (him : i < m) :
  ∀ (f : Nat) (listed : Array Bool) (ρ : Env) (w : World), rdy ops listed i = true → Rigid P ops n ρ oi w v →
   AnyC P n ops m K f (listed.setIfInBounds i true) (updO oi.dst v ρ) w → AnyC P n ops m K (f + 1) listed ρ w := by
 intro f
 induction f with
 | zero =>
  intro listed ρ w hr hy H w1 h1
  refine ⟨fun hl => ?_, fun j oj hjm hj hrj => ?_⟩
  ·have := (rdy_spec hr).1; rw [hl i him] at this; cases this
  by_cases e : j = i
  ·subst e
   have : oj = oi := Option.some.inj (hj.symm.trans hi)
   subst this
   exact (hy w1 h1).mono fun u w2 ⟨hu, h2⟩ => ⟨h2, hu ▸ AnyC.le (f := 0) H (h1.trans h2)⟩
  have := (H w (Le.refl w)).2 j hjm
  rw [rdy_other e hrj] at this
  cases this
 | succ f ih =>
  intro listed ρ w hr hy H w1 h1
  refine ⟨fun hl => ?_, fun j oj hjm hj hrj => ?_⟩
  ·have := (rdy_spec hr).1; rw [hl i him] at this; cases this
  by_cases e : j = i
  ·subst e
   have : oj = oi := Option.some.inj (hj.symm.trans hi)
   subst this
   exact (hy w1 h1).mono fun u w2 ⟨hu, h2⟩ => ⟨h2, hu ▸ AnyC.le (f := f + 1) H (h1.trans h2)⟩
  have h2 := (H w1 h1).2 j oj hjm hj (rdy_other e hrj)
  have hap : apartB ops oi oj = true := by
   rcases hok.apart i j oi oj him hjm (Ne.symm e) hi hj with h | h | h
   ·obtain ⟨_, o', ho', hw'⟩ := rdy_spec hrj
    have : o' = oj := Option.some.inj (ho'.symm.trans hj)
    subst this
    have := hw' i h
    rw [getD_both (rdy_spec hr).1] at this; cases this
   ·obtain ⟨_, o', ho', hw'⟩ := rdy_spec hr
    have : o' = oi := Option.some.inj (ho'.symm.trans hi)
    subst this
    have := hw' j h
    rw [getD_both (rdy_spec hrj).1] at this; cases this
   exact h
  obtain ⟨a1, a2, a3⟩ := apartB_spec hap
  rw [Sp.congr (not_sel (hok.sel j oj hj)) a1] at h2
  refine h2.mono fun u w2 ⟨h3, h4⟩ => ⟨h3, ?_⟩
  refine ih (listed.setIfInBounds j true) (updO oj.dst u ρ) w2 (rdy_other (Ne.symm e) hr) (fun w3 h5 => ?_) ?_
  ·rw [Sp.congr (not_sel (hok.sel i oi hi)) a3]
   exact hy w3 (h1.trans (h3.trans h5))
  rw [Array.setIfInBounds_comm _ _ e, ← updO_comm ρ v u a2]
  exact h4


theorem go_step (fuel t : Nat) (listed : Array Bool) : Region.linearise.go .any ops (fuel + 1) t listed [] =
  match (Region.ready .any ops listed)[t % (Region.ready .any ops listed).length]? with
  | some i => i :: Region.linearise.go .any ops fuel (t / (Region.ready .any ops listed).length) (listed.setIfInBounds i true) []
  | none => [] := by
 simp only [Region.linearise.go]
 change (match (Region.ready .any ops listed)[t % (Region.ready .any ops listed).length]? with
   | some i => Region.linearise.go .any ops fuel (t / (Region.ready .any ops listed).length) (listed.setIfInBounds i true) [i]
   | none => [].reverse) = _
 split
 ·rw [linearise_go_acc]; rfl
 rfl

theorem pick_some {l : List Nat} (h : l ≠ []) (t : Nat) : ∃ i, l[t % l.length]? = some i ∧ i ∈ l := by
 have hl : 0 < l.length := List.length_pos_iff.2 h
 have hlt := Nat.mod_lt t hl
 exact ⟨l[t % l.length], List.getElem?_eq_getElem hlt, List.getElem_mem hlt⟩

theorem ready_first (hok : DrawOk ops m) {listed : Array Bool} (hs : listed.size = ops.size) {j : Nat} (hj : j < ops.size) (hl : listed.getD j true = false) (hb : ∀ i, i < j → listed.getD i true = true) :
  rdy ops listed j = true := by
 refine rdy_mk hl (Array.getElem?_eq_getElem hj) fun x hx => ?_
 have hxj := hok.back j _ (Array.getElem?_eq_getElem hj) x hx
 have := hb x hxj
 have hxs : x < listed.size := by omega
 simpa [hxs] using this

theorem exists_first {listed : Array Bool} : ∀ N, (∃ i, i < N ∧ listed.getD i true = false) → ∃ j, j < N ∧ listed.getD j true = false ∧ ∀ i, i < j → listed.getD i true = true := by
 intro N
 induction N with
 | zero => rintro ⟨i, h, _⟩; omega
 | succ N ih =>
  rintro ⟨i, h, hi⟩
  by_cases hN : ∃ i, i < N ∧ listed.getD i true = false
  ·obtain ⟨j, h1, h2, h3⟩ := ih hN; exact ⟨j, by omega, h2, h3⟩
  have hall : ∀ i, i < N → listed.getD i true = true := fun i hi => by
   cases e : listed.getD i true with
   | true => rfl
   | false => exact absurd ⟨i, hi, e⟩ hN
  have : i = N := by
   rcases Nat.lt_or_ge i N with h' | h'
   ·rw [hall i h'] at hi; cases hi
   omega
  subst this
  exact ⟨i, by omega, hi, hall⟩

structure Inv (ops : Array Oper) (m : Nat) (listed : Array Bool) : Prop where
 size : listed.size = ops.size
 closed : ∀ (j : Nat) (o : Oper), ops[j]? = some o → listed.getD j false = true → ∀ x ∈ waits o, listed.getD x false = true

theorem Inv.set {listed : Array Bool} {i : Nat} (h : Inv ops m listed) (hr : rdy ops listed i = true) : Inv ops m (listed.setIfInBounds i true) := by
 obtain ⟨_, oi, hoi, hw⟩ := rdy_spec hr
 refine ⟨by simp [h.size], fun j o ho hj x hx => ?_⟩
 by_cases e : i = j
 ·subst e
  have : o = oi := Option.some.inj (ho.symm.trans hoi)
  subst this
  exact getD_set_mono (hw x hx)
 rw [getD_set_other e] at hj
 exact getD_set_mono (h.closed j o ho hj x hx)

theorem Inv.anc {listed : Array Bool} (h : Inv ops m listed) : ∀ (f j : Nat), (∀ o, ops[j]? = some o → ∀ x ∈ waits o, listed.getD x false = true) → ∀ i ∈ anc ops f j, listed.getD i false = true := by
 intro f
 induction f with
 | zero => intro j _ i hi; simp [Vk.anc] at hi
 | succ f ih =>
  intro j hj i hi
  unfold Vk.anc at hi
  cases ho : ops[j]? with
  | none => rw [ho] at hi; simp at hi
  | some o =>
   rw [ho] at hi
   obtain ⟨x, hx, hi⟩ := List.mem_flatMap.1 hi
   rcases List.mem_cons.1 hi with rfl | hi
   ·exact hj o ho i hx
   exact ih x (fun o' ho' y hy => h.closed x o' ho' (hj o ho x hx) y hy) i hi

theorem tail_order (hok : DrawOk ops m) : ∀ (d j fuel t : Nat) (listed : Array Bool), ops.size - j = d → m ≤ j → j ≤ ops.size → Inv ops m listed → (∀ i, i < j → listed.getD i true = true) →
  (∀ i, j ≤ i → i < ops.size → listed.getD i true = false) → d ≤ fuel → Region.linearise.go .any ops fuel t listed [] = List.range' j d := by
 intro d
 induction d with
 | zero =>
  intro j fuel t listed hd hm hj inv hlo hhi hf
  have hr : Region.ready .any ops listed = [] := by
   rcases List.eq_nil_or_concat (Region.ready .any ops listed) with h | ⟨l, x, h⟩
   ·exact h
   have hx : x ∈ Region.ready .any ops listed := by rw [h]; simp
   obtain ⟨h1, o, ho, _⟩ := rdy_spec (mem_ready_iff.1 hx)
   have hxs := (Array.getElem?_eq_some_iff.1 ho).1
   rw [hlo x (by omega)] at h1; cases h1
  cases fuel with
  | zero => rfl
  | succ fuel => rw [go_step, hr]; rfl
 | succ d ih =>
  intro j fuel t listed hd hm hj inv hlo hhi hf
  cases fuel with
  | zero => omega
  | succ fuel =>
   have hjs : j < ops.size := by omega
   have hrj := ready_first hok inv.size hjs (hhi j (Nat.le_refl _) hjs) hlo
   have hne : Region.ready .any ops listed ≠ [] := fun e => by
    have := mem_ready_iff.2 hrj; rw [e] at this; cases this
   obtain ⟨x, hx, hxm⟩ := pick_some hne t
   have hxr := mem_ready_iff.1 hxm
   have hxj : x = j := by
    obtain ⟨h1, o, ho, hw⟩ := rdy_spec hxr
    have hxs := (Array.getElem?_eq_some_iff.1 ho).1
    rcases Nat.lt_trichotomy x j with h | h | h
    ·rw [hlo x h] at h1; cases h1
    ·exact h
    have := inv.anc (ops.size + 1) x (fun o' ho' y hy => by
     have : o' = o := Option.some.inj (ho'.symm.trans ho)
     subst this; exact hw y hy) j (hok.tail x (by omega) hxs j h)
    rw [getD_both (hhi j (Nat.le_refl _) hjs)] at this; cases this
   subst hxj
   rw [go_step, hx]
   simp only [List.range'_succ]
   congr 1
   refine ih (x + 1) fuel _ _ (by omega) (by omega) (by omega) (inv.set hxr) (fun i hi => ?_) (fun i h1 h2 => ?_) (by omega)
   ·by_cases e : x = i
    ·subst e; simp [inv.size, hjs]
    exact getD_set_mono (hlo i (by omega))
   rw [getD_set_other (by omega)]; exact hhi i (by omega) h2

theorem range'_map (j d : Nat) (h : j + d = ops.size) : (List.range' j d).map (fun i => ops[i]?) = (ops.toList.drop j).map some := by
 apply List.ext_getElem?
 intro i
 simp only [List.getElem?_map, List.getElem?_drop]
 by_cases hi : i < d
 ·have : j + i < ops.size := by omega
  simp [hi, this]
 have h1 : (List.range' j d)[i]? = none := List.getElem?_eq_none (by rw [List.length_range']; omega)
 have h2 : ops.toList[j + i]? = none := List.getElem?_eq_none (by rw [Array.length_toList]; omega)
 rw [h1, h2]; rfl

theorem Sp.run {o : Oper} {i : Nat} {is : List Nat} {Φ : Value → World → Prop} (ho : ops[i]? = some o) (h : Sp P ops n ρ o w Φ)
  (hn : ∀ v w', Φ v w' → Run P b cs fin n (.inRegion ops is :: k) (updO o.dst v ρ) ds w') : Run P b cs fin n (.inRegion ops (i :: is) :: k) ρ ds w := by
 unfold Sp at h
 split at h
 ·rename_i hg
  obtain ⟨hnd, h⟩ := h
  rcases h with ⟨v, w', hr, hΦ⟩ | ⟨f, args, w', hr, hc⟩ | ⟨w', hr, hΦ⟩
  ·refine (hn v w' hΦ).of_step (step_lone_go ?_)
   rw [stepGR_op ho (by rw [wanted_gOk]; exact hg), ← finish_mkA (b := b) (k := k) (n := n) (ρ := ρ) (ds := ds) (is' := is) ho, Oper.semAt_eq _ _ _ hnd, mkA_eval]
   simp [stepG.apply, hr]
  ·obtain ⟨e, w'', fr, ⟨v, rfl, hR⟩, hs, _, hl⟩ := hc (b.atR (mkA n ρ ds) (.inRegion ops (i :: is) :: k) :: cs)
   have hent : step P (lone (b.atR (mkA n ρ ds) (.inRegion ops (i :: is) :: k)) cs w) = .next (lone (Frame.enter P f args .normal) (b.atR (mkA n ρ ds) (.inRegion ops (i :: is) :: k) :: cs) w') := by
    refine step_lone_go ?_
    rw [stepGR_op ho (by rw [wanted_gOk]; exact hg), Oper.semAt_eq _ _ _ hnd, mkA_eval]
    simp [stepG.apply, hr, Frame.atR]
   obtain ⟨m, hm, hf⟩ := hn v w'' hR
   refine ⟨m, .head hent (Steps.trans hs (.head (step_leave_returned hl) ?_)), hf⟩
   rw [finish_mkA ho]
   exact hm
  refine (hn undef w' hΦ).of_step (step_lone_go ?_)
  rw [stepGR_op ho (by rw [wanted_gOk]; exact hg), ← finish_mkA (b := b) (k := k) (n := n) (ρ := ρ) (ds := ds) (is' := is) ho, Oper.semAt_eq _ _ _ hnd, mkA_eval]
  simp [stepG.apply, hr]
 rename_i hg
 have hs := stepR_op_skip (P := P) (b := b) (a := mkA n ρ ds) (k := k) (cs := cs) (w := w) (ops := ops) (i := i) (rest := is) (by rw [ho]; simpa [wanted_gOk] using hg)
 rw [ho, Option.bind_some, mkA_putO] at hs
 exact (hn _ _ h).of_step hs

theorem any_run' (hok : DrawOk ops m) {K : Env → World → Prop} {A : Nat → Array Bool → Env → World → Prop}
  (hdone : ∀ f listed ρ w, A f listed ρ w → (∀ i, i < m → listed.getD i true = true) → K ρ w)
  (hnext : ∀ f listed ρ w (i : Nat) (o : Oper), A f listed ρ w → i < m → ops[i]? = some o → rdy ops listed i = true → ∃ g, Sp P ops n ρ o w fun v w2 => A g (listed.setIfInBounds i true) (updO o.dst v ρ) w2) (hK : ∀ ρ w, K ρ w → RunL P b cs fin n ops (ops.toList.drop m) k ρ ds w) :
  ∀ (fuel f t : Nat) (listed : Array Bool) (ρ : Env) (w : World), A f listed ρ w → Inv ops m listed → (∀ i, m ≤ i → i < ops.size → listed.getD i true = false) →
   ops.size - fuel ≤ ((List.range m).filter fun i => listed.getD i true).length →
   Run P b cs fin n (.inRegion ops (Region.linearise.go .any ops fuel t listed []) :: k) ρ ds w := by
 intro fuel
 induction fuel with
 | zero =>
  intro f t listed ρ w h inv htail hcount
  have hle : ((List.range m).filter fun i => listed.getD i true).length ≤ m := by
   have := List.length_filter_le (fun i => listed.getD i true) (List.range m); simpa using this
  have hm : m = ops.size := by have := hok.le; omega
  have hall : ∀ i, i < m → listed.getD i true = true := by
   have : (List.range m).filter (fun i => listed.getD i true) = List.range m := List.filter_eq_self.2 (by
    have h1 := List.length_filter_eq_length_iff (l := List.range m) (p := fun i => listed.getD i true)
    exact h1.1 (by rw [List.length_range]; omega))
   intro i hi
   have := List.filter_eq_self.1 this i (List.mem_range.2 hi)
   simpa using this
  have := hK ρ w (hdone _ _ _ _ h hall)
  have hd : ops.toList.drop m = [] := by rw [hm]; simp
  rw [hd] at this
  exact this [] rfl
 | succ fuel ih =>
  intro f t listed ρ w h inv htail hcount
  by_cases hall : ∀ i, i < m → listed.getD i true = true
  ·have hlen : ((List.range m).filter fun i => listed.getD i true).length = m := by
    rw [List.filter_eq_self.2 (fun i hi => hall i (List.mem_range.1 hi))]; simp
   rw [tail_order hok (ops.size - m) m (fuel + 1) t listed rfl (Nat.le_refl _) hok.le inv hall htail (by have := hok.le; omega)]
   exact hK ρ w (hdone _ _ _ _ h hall) _ (range'_map m _ (by have := hok.le; omega))
  have hex : ∃ i, i < m ∧ listed.getD i true = false := by
   apply Classical.byContradiction
   intro hno
   exact hall fun i hi => by
    cases e : listed.getD i true with
    | true => rfl
    | false => exact absurd ⟨i, hi, e⟩ hno
  obtain ⟨j, hjm, hjl, hjb⟩ := exists_first m hex
  have hrj := ready_first hok inv.size (Nat.lt_of_lt_of_le hjm hok.le) hjl hjb
  have hne : Region.ready .any ops listed ≠ [] := fun e => by
   have := mem_ready_iff.2 hrj; rw [e] at this; cases this
  obtain ⟨x, hx, hxm⟩ := pick_some hne t
  have hxr := mem_ready_iff.1 hxm
  obtain ⟨hxl, o, ho, hw⟩ := rdy_spec hxr
  have hxs := (Array.getElem?_eq_some_iff.1 ho).1
  have hxlt : x < m := by
   rcases Nat.lt_or_ge x m with h' | h'
   ·exact h'
   have := inv.anc (ops.size + 1) x (fun o' ho' y hy => by
    have : o' = o := Option.some.inj (ho'.symm.trans ho)
    subst this; exact hw y hy) j (hok.tail x h' hxs j (by omega))
   rw [getD_both hjl] at this; cases this
  rw [go_step, hx]
  obtain ⟨g, hsp⟩ := hnext _ _ _ _ _ _ h hxlt ho hxr
  refine hsp.run ho fun v w' h' => ih g _ _ _ _ h' (inv.set hxr) (fun i h1 h2 => by rw [getD_set_other (by omega)]; exact htail i h1 h2) ?_
  have hgrow : ((List.range m).filter fun i => listed.getD i true).length + 1 ≤ ((List.range m).filter fun i => (listed.setIfInBounds x true).getD i true).length := by
   have key : ∀ l : List Nat, l.Nodup → x ∈ l → (l.filter fun i => listed.getD i true).length + 1 ≤ (l.filter fun i => (listed.setIfInBounds x true).getD i true).length := by
    intro l
    induction l with
    | nil => intro _ h; cases h
    | cons y l ihl =>
     intro hnd hmem
     have hnd' := List.nodup_cons.1 hnd
     by_cases e : x = y
     ·subst e
      have hset : (listed.setIfInBounds x true).getD x true = true := by simp [inv.size, hxs]
      rw [List.filter_cons_of_neg (by simp [hxl]), List.filter_cons_of_pos (p := fun i => (listed.setIfInBounds x true).getD i true) hset, List.length_cons]
      refine Nat.succ_le_succ (Nat.le_of_eq ?_)
      congr 1
      apply List.filter_congr
      intro z hz
      rw [getD_set_other (by rintro rfl; exact hnd'.1 hz)]
     have hmem' : x ∈ l := by rcases List.mem_cons.1 hmem with h | h; exact absurd h e; exact h
     have := ihl hnd'.2 hmem'
     have he : (listed.setIfInBounds x true).getD y true = listed.getD y true := getD_set_other e
     by_cases hy : listed.getD y true = true
     ·rw [List.filter_cons_of_pos (by simpa using hy), List.filter_cons_of_pos (by rw [he]; simpa using hy)]
      simp only [List.length_cons]; omega
     rw [List.filter_cons_of_neg (by simpa using hy), List.filter_cons_of_neg (by rw [he]; simpa using hy)]
     exact this
   exact key _ List.nodup_range (List.mem_range.2 hxlt)
  omega

theorem any_run (hok : DrawOk ops m) {K : Env → World → Prop} (hK : ∀ ρ w, K ρ w → RunL P b cs fin n ops (ops.toList.drop m) k ρ ds w) :
  ∀ (fuel f t : Nat) (listed : Array Bool) (ρ : Env) (w : World), AnyC P n ops m K f listed ρ w → Inv ops m listed → (∀ i, m ≤ i → i < ops.size → listed.getD i true = false) →
   ops.size - fuel ≤ ((List.range m).filter fun i => listed.getD i true).length →
   Run P b cs fin n (.inRegion ops (Region.linearise.go .any ops fuel t listed []) :: k) ρ ds w :=
 any_run' hok (fun _ _ _ _ h hl => h.done hl) (fun _ _ _ _ _ _ h hi ho hr => let ⟨g, hs⟩ := h.next hi ho hr; ⟨g, hs.mono fun _ _ h => h.2⟩) hK

theorem r_draw {id : Nat} (m : Nat) (hmo : P.follows .mixedOrders = true) (hok : drawOk ops m = true) {K : Env → World → Prop} (f : Nat)
  (h : AnyC P n ops m K f (Array.replicate ops.size false) ρ w) (hK : ∀ ρ w, K ρ w → RunL P b cs fin n ops (ops.toList.drop m) k ρ ds w) :
  Run P b cs fin n (.code (.region id ops true) :: k) ρ ds w := by
 refine Run.of_step stepR_region_draw ?_
 have hok := drawOk_spec hok
 have := any_run (b := b) (cs := cs) (fin := fin) (k := k) (ds := ds) hok hK ops.size f (w.tape w.drawn (.order b.fn id)) (Array.replicate ops.size false) ρ { w with drawn := w.drawn + 1 } (h.le (Le.drew w))
  ⟨by simp, fun j o ho hj => by
   have : j < ops.size := (Array.getElem?_eq_some_iff.1 ho).1
   simp [this] at hj⟩ (fun i _ hi => by simp [hi]) (by omega)
 simp only [Region.schedule, hmo, Bool.true_or, if_true, Region.linearise]
 exact this


def RW (P : Program) (ops : Array Oper) (n : Nat) (w : World) (K : Env → Prop) : List Oper → Env → Prop
 | [], ρ => K ρ
 | o :: rest, ρ => ∃ v, Rigid P ops n ρ o w v ∧ RW P ops n w K rest (updO o.dst v ρ)

theorem anyC_of_RW {K : Env → World → Prop} (hok : DrawOk ops m) : ∀ (l : List Oper) (i : Nat) (listed : Array Bool) (ρ : Env), i + l.length = m → (∀ j, l[j]? = if i + j < m then ops[i + j]? else none) →
  listed.size = ops.size → (∀ j, j < i → listed.getD j true = true) → (∀ j, i ≤ j → j < ops.size → listed.getD j true = false) → RW P ops n w (fun ρ => ∀ w', Le w w' → K ρ w') l ρ →
  AnyC P n ops m K l.length listed ρ w := by
 intro l
 induction l with
 | nil =>
  intro i listed ρ hi hl hs hlo hhi h w1 h1
  simp at hi
  subst hi
  exact ⟨fun _ => h w1 h1, fun j hj => by
   cases e : rdy ops listed j with
   | false => rfl
   | true => have := (rdy_spec e).1; rw [hlo j hj] at this; cases this⟩
 | cons o l ih =>
  intro i listed ρ hi hl hs hlo hhi h
  simp only [List.length_cons] at hi
  obtain ⟨v, hrig, h⟩ := h
  have him : i < m := by omega
  have his : i < ops.size := Nat.lt_of_lt_of_le him hok.le
  have ho : ops[i]? = some o := by
   have := hl 0; simpa [him] using this.symm
  have hr : rdy ops listed i = true := ready_first hok hs his (hhi i (Nat.le_refl _) his) hlo
  refine AnyC.first hok ho him l.length listed ρ w hr hrig (ih (i + 1) _ _ (by omega) (fun j => ?_) (by simp [hs]) (fun j hj => ?_) (fun j h1 h2 => ?_) h)
  ·have := hl (j + 1)
   simpa [Nat.add_assoc, Nat.add_comm 1 j] using this
  ·by_cases e : i = j
   ·subst e; simp [hs, his]
   exact getD_set_mono (hlo j (by omega))
  rw [getD_set_other (by omega)]; exact hhi j (by omega) h2

theorem r_drawR {id : Nat} (m : Nat) (hmo : P.follows .mixedOrders = true) (hok : drawOk ops m = true)
  (h : RW P ops n w (fun ρ => ∀ w', Le w w' → RunL P b cs fin n ops (ops.toList.drop m) k ρ ds w') (ops.toList.take m) ρ) :
  Run P b cs fin n (.code (.region id ops true) :: k) ρ ds w := by
 have hok' := drawOk_spec hok
 have hle := hok'.le
 refine r_draw m hmo hok (K := fun ρ w => RunL P b cs fin n ops (ops.toList.drop m) k ρ ds w) (ops.toList.take m).length ?_ (fun _ _ h => h)
 refine anyC_of_RW hok' (ops.toList.take m) 0 _ ρ (by simp; omega) (fun j => ?_) (by simp) (fun j hj => by omega) (fun j _ hj => by simp [hj]) h
 simp [List.getElem?_take]

variable {o : Oper} {rest : List Oper} {K : Env → Prop} {d : Nat} {op : Op} {ty : TypeId} {pos : String} {af : Array Edge} {g : Option (Nat × Bool)} {v : Value}

theorem w_nil (h : K ρ) : RW P ops n w K [] ρ := h
theorem w_x (hg : gOk ops n ρ g = true) (hx : ∀ w1, Le w w1 → X P (ev n ρ) op ty w1 v w1) (h : RW P ops n w K rest (upd ρ d v)) : RW P ops n w K (⟨some d, op, ty, pos, af, g⟩ :: rest) ρ := by
 refine ⟨v, fun w1 h1 => ?_, h⟩
 unfold Sp
 rw [if_pos hg]
 exact ⟨(hx w1 h1).1, .inl ⟨v, w1, (hx w1 h1).2 .., rfl, Le.refl _⟩⟩
theorem w_pass (hg : gOk ops n ρ o.guard = false) (h : RW P ops n w K rest (updO o.dst undef ρ)) : RW P ops n w K (o :: rest) ρ := by
 refine ⟨undef, fun w1 h1 => ?_, h⟩
 unfold Sp
 rw [if_neg (by simp [hg])]
 exact ⟨rfl, Le.refl _⟩
theorem w_call (hg : gOk ops n ρ o.guard = true) (hnd : ∀ c, o.op ≠ .defer c) {f : FuncId} {args : Array Value} (hr : ∀ w, (execOp (ev n ρ) o).run P w = .ok (.enter f args) w)
  (hc : ∀ w1, Le w w1 → Cl P f args w1 fun u w2 => u = v ∧ Le w1 w2) (h : RW P ops n w K rest (updO o.dst v ρ)) : RW P ops n w K (o :: rest) ρ := by
 refine ⟨v, fun w1 h1 => ?_, h⟩
 unfold Sp
 rw [if_pos hg]
 exact ⟨hnd, .inr (.inl ⟨f, args, w1, hr w1, hc w1 h1⟩)⟩
theorem w_split {l : List Oper} {d : Nat} {t : Bool} (hd : ρ d = .bool t) (ht : t = true → RW P ops n w K l (upd ρ d (.bool true))) (hf : t = false → RW P ops n w K l (upd ρ d (.bool false))) : RW P ops n w K l ρ := by
 cases t
 ·have := hf rfl; rwa [upd_self hd] at this
 have := ht rfl; rwa [upd_self hd] at this
theorem w_splitd {l : List Oper} {d : Nat} {p : Prop} [Decidable p] (hd : ρ d = .bool (decide p)) (ht : p → RW P ops n w K l (upd ρ d (.bool true))) (hf : ¬ p → RW P ops n w K l (upd ρ d (.bool false))) : RW P ops n w K l ρ :=
 w_split hd (fun h => ht (of_decide_eq_true h)) (fun h => hf (of_decide_eq_false h))

end
end Go.Vk

namespace Go.Vk
open Go

section
variable {P : Program} {b : Frame} {cs : List Frame} {fin : Machine → Prop} {n : Nat} {all : Array Oper} {rest : List Oper} {k : List Item} {ρ : Env} {ds : List Deferred} {w w' : World}
 {d : Nat} {d' : Option Nat} {ty : TypeId} {pos : String} {af : Array Edge} {g : Option (Nat × Bool)} {T : TypeId} {x y : Operand} {v : Value}

theorem run_call {E : Operand → Value} {F : Operand} {as : List Operand} {ts : Array TypeId} {f : FuncId} {first cap vals : List Value} {dd : Option Nat}
  (hF : E F = .func (.func f) first.toArray cap.toArray) (he : ∀ args w, (callFunc f args).run P w = .ok (.enter f args) w) (ha : first ++ as.map E ++ cap = vals) :
  (execOp E ⟨dd, .call ⟨.value F, as.toArray, ts⟩, ty, pos, af, g⟩).run P w = .ok (.enter f vals.toArray) w := by
 subst ha
 simp only [execOp, resolve, hF, Deferred.ofValue, Sem.run_bind, Sem.run_pure, Result.andThen_ok, invoke, List.map_toArray, List.append_toArray, he]

theorem l_call {F : Operand} {as : List Operand} {ts : Array TypeId} {f : FuncId} (first cap vals : List Value) {R : Value → World → Prop} (hg : gOk all n ρ g = true)
  (hF : ev n ρ F = .func (.func f) first.toArray cap.toArray) (he : ∀ args w, (callFunc f args).run P w = .ok (.enter f args) w) (ha : first ++ as.map (ev n ρ) ++ cap = vals)
  (hc : Cl P f vals.toArray w R) (h : ∀ v w', R v w' → RunL P b cs fin n all rest k (updO d' v ρ) ds w') :
  RunL P b cs fin n all (⟨d', .call ⟨.value F, as.toArray, ts⟩, ty, pos, af, g⟩ :: rest) k ρ ds w :=
 l_enter hg nofun (run_call hF he ha) hc h

theorem wd_call {K : Env → Prop} {F : Operand} {as : List Operand} {ts : Array TypeId} {f : FuncId} (first cap vals : List Value) (hg : gOk all n ρ g = true)
  (hF : ev n ρ F = .func (.func f) first.toArray cap.toArray) (he : ∀ args w, (callFunc f args).run P w = .ok (.enter f args) w) (ha : first ++ as.map (ev n ρ) ++ cap = vals)
  (hc : ∀ w1, Le w w1 → Cl P f vals.toArray w1 fun u w2 => u = v ∧ Le w1 w2) (h : RW P all n w K rest (updO d' v ρ)) :
  RW P all n w K (⟨d', .call ⟨.value F, as.toArray, ts⟩, ty, pos, af, g⟩ :: rest) ρ :=
 w_call hg nofun (fun _ => run_call hF he ha) hc h

theorem x_func {E : Operand → Value} {fn : Go.Fn} {first cap : List Operand} {vf vc : List Value} (hf : first.map E = vf) (hc : cap.map E = vc) :
  X P E (.makeFunc fn first.toArray cap.toArray) ty w (.func fn vf.toArray vc.toArray) w :=
 ⟨nofun, fun _ _ _ _ => by subst hf; subst hc; simp only [execOp, Instr.makeFunc, List.map_toArray]; rfl⟩


theorem foldl_set (vs : List Value) : ∀ (off i : Nat) (c : List Value), off + i + vs.length ≤ c.length →
  ((vs.zipIdx i).foldl (fun (cs : Array Value) (p : Value × Nat) => cs.setIfInBounds (off + p.2) p.1) c.toArray) = (splice c (off + i) vs).toArray := by
 induction vs with
 | nil => intro off i c _; simp [splice]
 | cons v vs ih =>
  intro off i c h
  simp only [List.length_cons] at h
  simp only [List.zipIdx_cons, List.foldl_cons, List.setIfInBounds_toArray]
  rw [ih off (i + 1) _ (by simp; omega)]
  congr 1
  have := list_seg_step c (off + i) v vs (by omega)
  simpa [splice, Nat.add_assoc, Nat.add_comm 1] using this

theorem fill_nil {place : Nat → Option (Nat × Nat)} {c : List Value} : Instr.fill place c.toArray [] = some c.toArray := rfl
theorem fill_cons {place : Nat → Option (Nat × Nat)} {c vs : List Value} {i off s : Nat} {u : Value} {rest : List (Nat × Value)} {out : Option (Array Value)} (hp : place i = some (off, s)) (hv : u.cells = vs.toArray) (hs : vs.length = s)
  (hle : off + s ≤ c.length) (h : Instr.fill place (splice c off vs).toArray rest = out) : Instr.fill place c.toArray ((i, u) :: rest) = out := by
 subst hs
 subst h
 have h1 := foldl_set vs off 0 c (by omega)
 simp only [Nat.add_zero] at h1
 rw [← h1]
 conv => lhs; unfold Instr.fill
 rw [hp]
 simp only [hv, List.size_toArray, ne_eq, not_true_eq_false]
 rw [if_neg (by simpa using hle)]
 have h2 : vs.toArray.zipIdx = vs.zipIdx.toArray := by simp
 rw [h2, List.foldl_toArray]

theorem x_build {E : Operand → Value} {parts : List (Nat × Operand)} {z : Value} {zc out : List Value} {fs : Array Field} {places : Array (Nat × Nat)} (hz : ∀ w, (zeroValue T).run P w = .ok z w) (hzc : z.cells = zc.toArray)
  (hu : ∀ w, (underlying T).run P w = .ok (.struct fs) w) (hp : ∀ w, (fs.mapM (m := Sem) fun f => do pure (f.offset, ← sizeOf f.type)).run P w = .ok places w)
  (hf : Instr.fill (places[·]?) zc.toArray (parts.map fun p => (p.1, E p.2)) = some out.toArray) : X P E (.build T parts.toArray) ty w (.agg out.toArray) w := by
 refine ⟨nofun, fun _ _ _ _ => ?_⟩
 simp only [execOp, Instr.build, Sem.run_bind, hz, Result.andThen_ok, hzc, hu, hp, List.map_toArray]
 rw [hf]
 rfl

end
end Go.Vk

namespace Go.Vk
open Go

section lists
variable {α : Type} (E : Elt α)

theorem flatMap_get_inv : ∀ (l : List α) (j : Nat) (u : Value), (l.flatMap E.enc)[j]? = some u → ∃ a, l[j / E.sz]? = some a ∧ (E.enc a)[j % E.sz]? = some u := by
 intro l
 induction l with
 | nil => intro j u h; simp at h
 | cons a l ih =>
  intro j u h
  rw [List.flatMap_cons] at h
  by_cases hj : j < E.sz
  ·rw [List.getElem?_append_left (by rw [E.len]; exact hj)] at h
   exact ⟨a, by rw [Nat.div_eq_of_lt hj]; rfl, by rw [Nat.mod_eq_of_lt hj]; exact h⟩
  rw [List.getElem?_append_right (by rw [E.len]; omega), E.len] at h
  obtain ⟨c, h1, h2⟩ := ih _ _ h
  have hp := E.pos
  have e1 : j / E.sz = (j - E.sz) / E.sz + 1 := by
   conv => lhs; rw [show j = (j - E.sz) + E.sz by omega]
   exact Nat.add_div_right _ hp
  have e2 : j % E.sz = (j - E.sz) % E.sz := by
   conv => lhs; rw [show j = (j - E.sz) + E.sz by omega]
   exact Nat.add_mod_right _ _
  exact ⟨c, by rw [e1]; exact h1, by rw [e2]; exact h2⟩

theorem splice_append_left {c c' vs : List Value} {o : Nat} (h : o + vs.length ≤ c.length) : splice (c ++ c') o vs = splice c o vs ++ c' := by
 simp only [splice]
 rw [List.take_append_of_le_length (by omega), List.drop_append_of_le_length (by omega)]
 simp
theorem splice_append_right {c c' vs : List Value} {o : Nat} : splice (c ++ c') (c.length + o) vs = c ++ splice c' o vs := by
 simp only [splice]
 rw [List.take_length_add_append, Nat.add_assoc, List.drop_length_add_append]
 simp

theorem flatMap_splice : ∀ (l : List α) (i f : Nat) (a a' : α) (vs : List Value), l[i]? = some a → f + vs.length ≤ E.sz → splice (E.enc a) f vs = E.enc a' →
  splice (l.flatMap E.enc) (i * E.sz + f) vs = (l.set i a').flatMap E.enc := by
 intro l
 induction l with
 | nil => intro i f a a' vs h; simp at h
 | cons c l ih =>
  intro i f a a' vs h hf he
  rw [List.flatMap_cons]
  cases i with
  | zero =>
   simp at h; subst h
   rw [Nat.zero_mul, Nat.zero_add, splice_append_left (by rw [E.len]; exact hf), he]
   simp
  | succ i =>
   have e : (i + 1) * E.sz + f = (E.enc c).length + (i * E.sz + f) := by rw [E.len, Nat.add_mul]; omega
   rw [e, splice_append_right, ih i f a a' vs (by simpa using h) hf he]
   simp

theorem take_splice {c vs : List Value} {o N : Nat} (h : o + vs.length ≤ N) (hN : N ≤ c.length) : (splice c o vs).take N = splice (c.take N) o vs := by
 have e : c = c.take N ++ c.drop N := (List.take_append_drop N c).symm
 have hl : (c.take N).length = N := by simp; omega
 conv => lhs; rw [e]
 rw [splice_append_left (by rw [hl]; exact h), List.take_append_of_le_length (by rw [splice_length (by rw [hl]; exact h), hl]; exact Nat.le_refl _)]
 rw [List.take_of_length_le]
 rw [splice_length (by rw [hl]; exact h), hl]
 exact Nat.le_refl _

theorem flatMap_replicate (a : α) (n : Nat) : (List.replicate n a).flatMap E.enc = (List.replicate n (E.enc a)).flatten := by
 induction n with
 | zero => simp
 | succ n ih => simp [List.replicate_succ, ih]

theorem range_zero (z : List Value) : ∀ c : Nat, ((List.range (c * z.length)).map fun i => z.toArray[i % z.length]!) = (List.replicate c z).flatten := by
 intro c
 induction c with
 | zero => simp
 | succ c ih =>
  rw [Nat.add_mul, Nat.one_mul, List.range_add, List.map_append, ih, List.replicate_succ', List.flatten_append]
  congr 1
  simp only [List.flatten_cons, List.flatten_nil, List.append_nil, List.map_map]
  apply List.ext_getElem?
  intro j
  by_cases hj : j < z.length
  ·simp [hj, Nat.mod_eq_of_lt hj, Nat.add_mod]
  simp [hj]

end lists

section
variable {P : Program} {b : Frame} {cs : List Frame} {fin : Machine → Prop} {n : Nat} {all : Array Oper} {rest : List Oper} {k : List Item} {ρ : Env} {ds : List Deferred} {w w' : World}
 {d : Nat} {d' : Option Nat} {ty : TypeId} {pos : String} {af : Array Edge} {g : Option (Nat × Bool)} {T : TypeId} {x y : Operand} {v : Value}
 {X : Nat → Prop} {w0 : World} {L : List Rsc} {α : Type} {E : Elt α}

theorem vec_new {c : List Value} {l : List α} {cap : Nat} (hl : l.length ≤ cap) (hm : cap ≤ maxLen) (hc : c.length = cap * E.sz) (ht : c.take (l.length * E.sz) = l.flatMap E.enc) :
  New w (w.alloc (.cells c.toArray E.T (0, 0))) (vec E (.slice (some ⟨w.heap.size, 0, none⟩) l.length cap) l) :=
 ⟨.inr ⟨w.heap.size, cap, c, rfl, hl, hm, hc, ht, Blk.new w c E.T⟩, fun b hb => by
  obtain ⟨n, cap', h⟩ := hb
  simp at h
  rw [← h.1]
  simp⟩


def PartsOk (ev : Operand → Value) (E : Elt α) : Nat → List (Nat × Operand) → List α → Prop
 | _, [], [] => True
 | i, (j, x) :: ps, a :: as => j = i ∧ (ev x).cells = (E.enc a).toArray ∧ PartsOk ev E (i + 1) ps as
 | _, _, _ => False

theorem fill_parts {ev : Operand → Value} : ∀ (parts : List (Nat × Operand)) (as : List α) (i : Nat) (pre post : List Value), PartsOk ev E i parts as → pre.length = i * E.sz → post.length = as.length * E.sz →
  Instr.fill (fun i => some (i * E.sz, E.sz)) (pre ++ post).toArray (parts.map fun p => (p.1, ev p.2)) = some (pre ++ as.flatMap E.enc).toArray := by
 intro parts
 induction parts with
 | nil =>
  intro as i pre post h h1 h2
  cases as with
  | nil => simp at h2; subst h2; simp [Instr.fill]
  | cons a as => exact h.elim
 | cons p parts ih =>
  intro as i pre post h h1 h2
  obtain ⟨j, x⟩ := p
  cases as with
  | nil => exact h.elim
  | cons a as =>
   obtain ⟨rfl, hv, h⟩ := h
   simp only [List.length_cons, Nat.add_mul, Nat.one_mul] at h2
   refine fill_cons rfl hv (E.len a) (by simp [h1, h2]) ?_
   have e1 : splice (pre ++ post) (j * E.sz) (E.enc a) = (pre ++ E.enc a) ++ post.drop E.sz := by
    rw [← h1]
    have := splice_append_right (c := pre) (c' := post) (vs := E.enc a) (o := 0)
    rw [Nat.add_zero] at this
    rw [this, splice, E.len]
    simp
   rw [e1, ih as (j + 1) (pre ++ E.enc a) (post.drop E.sz) h (by simp [h1, E.len, Nat.add_mul]) (by simp; omega)]
   simp

theorem l_buildSlice (E : Elt α) {len : Nat} {parts : List (Nat × Operand)} (as : List α) {z : Value} (S : Own X w0 w L) (hg : gOk all n ρ g = true) (hu : ∀ w, (underlying T).run P w = .ok (.slice E.T) w)
  (hs : ∀ w, (sizeOf E.T).run P w = .ok E.sz w) (hz : ∀ w, (zeroValue E.T).run P w = .ok z w) (hl : as.length = len) (hp : PartsOk (ev n ρ) E 0 parts as) (hsm : len * E.sz ≤ 16777216)
  (h : ∀ v w', Own X w0 w' (L ++ [vec E v as]) → Le w w' → RunL P b cs fin n all rest k (upd ρ d v) ds w') :
  RunL P b cs fin n all (⟨some d, .buildSlice T len parts.toArray, ty, pos, af, g⟩ :: rest) k ρ ds w := by
 have hpos := E.pos
 have hlen : len ≤ maxLen := by
  have : len ≤ len * E.sz := Nat.le_mul_of_pos_right _ hpos
  simp only [maxLen]; omega
 subst hl
 refine l_x hg (v := .slice (some ⟨w.heap.size, 0, none⟩) as.length as.length) (w' := w.alloc (.cells (as.flatMap E.enc).toArray E.T (0, 0))) ⟨nofun, fun _ _ _ _ => ?_⟩
  (h _ _ (S.add (Le.alloc_cells _ _ _) (vec_new (Nat.le_refl _) hlen (flatMap_enc_length E as) (by rw [List.take_of_length_le]; rw [flatMap_enc_length]; exact Nat.le_refl _))) (Le.alloc_cells _ _ _))
 simp only [execOp, Instr.buildSlice, Sem.run_bind, hu, hs, Result.andThen_ok]
 rw [if_neg (by simpa using hsm)]
 have hfill : ∀ zz : Array Value, Instr.fill (fun i => some (i * E.sz, E.sz)) ((Array.range (as.length * E.sz)).map (zz[· % zz.size]!)) (parts.map fun p => (p.1, ev n ρ p.2)) = some (as.flatMap E.enc).toArray := by
  intro zz
  have := fill_parts (E := E) (ev := ev n ρ) parts as 0 [] ((Array.range (as.length * E.sz)).map (zz[· % zz.size]!)).toList hp (by simp) (by simp)
  simpa only [List.nil_append, Array.toArray_toList] using this
 simp only [List.map_toArray]
 by_cases h0 : as.length * E.sz = 0
 ·rw [if_pos h0]
  simp only [Sem.run_bind, Sem.run_pure, Result.andThen_ok, hfill]
  rfl
 rw [if_neg h0]
 simp only [Sem.run_bind, hz, Sem.run_pure, Result.andThen_ok, hfill]
 rfl


theorem l_make (E : Elt α) (a0 : α) {len cap : Nat} {ti : TypeInfo} {z : Value} (S : Own X w0 w L) (hg : gOk all n ρ g = true) (hu : ∀ w, (underlying T).run P w = .ok (.slice E.T) w)
  (hs : ∀ w, (sizeOf E.T).run P w = .ok E.sz w) (hti : ∀ w, (typeInfo E.T).run P w = .ok ti w) (hz : ∀ w, (zeroValue E.T).run P w = .ok z w) (hzc : z.cells = E.zero.toArray) (h0 : E.enc a0 = E.zero)
  (hx : ev n ρ x = .int .i64 len) (hy : ev n ρ y = .int .i64 cap) (hlc : len ≤ cap) (hm : cap ≤ maxLen) (hb : cap * ti.bytes ≤ 140737488355328)
  (h : ∀ v w', (∃ b, v = .slice (some ⟨b, 0, none⟩) len cap) → Own X w0 w' (L ++ [vec E v (List.replicate len a0)]) → Le w w' → RunL P b cs fin n all rest k (upd ρ d v) ds w') :
  RunL P b cs fin n all (⟨some d, .makeSlice T x y, ty, pos, af, g⟩ :: rest) k ρ ds w := by
 have hpos := E.pos
 have hm' : cap ≤ 9223372036854775807 := by simp only [maxLen] at hm; omega
 have hvn := vec_new (w := w) (E := E) (c := (List.replicate cap E.zero).flatten) (l := List.replicate len a0) (cap := cap) (by simpa using hlc) hm (by simp [E.zlen]) (by
  rw [List.length_replicate, flatMap_replicate, h0]
  obtain ⟨e, rfl⟩ : ∃ e, cap = len + e := ⟨cap - len, by omega⟩
  rw [← List.replicate_append_replicate, List.flatten_append, List.take_append_of_le_length (by simp [E.zlen]), List.take_of_length_le (by simp [E.zlen])])
 rw [List.length_replicate] at hvn
 refine l_x hg (v := .slice (some ⟨w.heap.size, 0, none⟩) len cap) (w' := w.alloc (.cells (List.replicate cap E.zero).flatten.toArray E.T (0, 0))) ⟨nofun, fun _ _ _ _ => ?_⟩
  (h _ _ ⟨_, rfl⟩ (S.add (Le.alloc_cells _ _ _) hvn) (Le.alloc_cells _ _ _))
 have hw1 : IntKind.i64.wrap (len : Int) = len := IntWalk.i64_in _ (by omega)
 have hw2 : IntKind.i64.wrap (cap : Int) = cap := IntWalk.i64_in _ (by omega)
 have eb : ∀ m : Nat, (ti.bytes : Int) * (m : Int) = ((m * ti.bytes : Nat) : Int) := fun m => by rw [Int.natCast_mul, Int.mul_comm]
 have hlen : len * ti.bytes ≤ 140737488355328 := Nat.le_trans (Nat.mul_le_mul_right _ hlc) hb
 have hroom : ∀ w, (askRoom (cap * ti.bytes)).run P w = .ok () w := by
  intro w
  unfold askRoom roomBytes
  rw [if_neg (by omega)]
  rfl
 have hcells : ∀ zz : Array Value, (cap * E.sz = 0 ∨ zz = E.zero.toArray) → (Array.range (cap * E.sz)).map (fun i => zz[i % zz.size]!) = (List.replicate cap E.zero).flatten.toArray := by
  intro zz hz0
  by_cases hc : cap * E.sz = 0
  ·have : cap = 0 := by
    rcases Nat.mul_eq_zero.1 hc with h | h
    ·exact h
    omega
   subst this
   simp
  have hzz := hz0.resolve_left hc
  have := range_zero E.zero cap
  rw [← this, E.zlen, hzz]
  apply Array.ext'
  simp [E.zlen]
 have htl : ∀ m : Nat, m * ti.bytes ≤ 140737488355328 → (decide ((m : Int) < 0) || decide ((ti.bytes : Int) * (m : Int) > 2 ^ 48)) = false := by
  intro m hm
  rw [eb]
  have h1 : ¬ ((m : Int) < 0) := by omega
  have h2 : ¬ (((m * ti.bytes : Nat) : Int) > 2 ^ 48) := by
   rw [show (2 : Int) ^ 48 = 281474976710656 from rfl]; omega
  simp only [h1, h2, decide_false, Bool.or_false]
 simp only [execOp, Instr.makeSlice, Sem.run_bind, hu, Result.andThen_ok, hx, hy, asInt, asIntOf, Sem.run_pure, hti, hw1, hw2, htl cap hb, htl len hlen]
 have h3 : ¬ ((len : Int) < 0) := by omega
 have h4 : ¬ ((len : Int) > (cap : Int)) := by omega
 simp only [h3, h4, decide_false, Bool.or_false, Bool.false_eq_true, if_false, Int.toNat_natCast]
 by_cases h0 : cap * E.sz = 0
 ·simp only [Sem.run_bind, hroom, Result.andThen_ok, hs]
  rw [if_pos h0]
  simp only [Sem.run_bind, Sem.run_pure, Result.andThen_ok, hcells _ (.inl h0)]
  rfl
 simp only [Sem.run_bind, hroom, Result.andThen_ok, hs]
 rw [if_neg h0]
 simp only [Sem.run_bind, hz, hzc, Sem.run_pure, Result.andThen_ok, hcells _ (.inr rfl)]
 rfl


end
end Go.Vk

namespace Go.Vk
open Go

section
variable {P : Program} {b : Frame} {cs : List Frame} {fin : Machine → Prop} {n : Nat} {all : Array Oper} {rest : List Oper} {k : List Item} {ρ : Env} {ds : List Deferred} {w w' : World}
 {d : Nat} {d' : Option Nat} {ty : TypeId} {pos : String} {af : Array Edge} {g : Option (Nat × Bool)} {T : TypeId} {x y : Operand} {v : Value}
 {X : Nat → Prop} {w0 : World} {L : List Rsc} {α : Type} {E : Elt α}


theorem rd_cells {xv : Value} {xs : List α} (h : Rd E w xv xs) (hne : xs ≠ []) : ∃ b o cap, xv = .slice (some ⟨b, o, none⟩) xs.length cap ∧ xs.length ≤ cap ∧ ∀ j u, (xs.flatMap E.enc)[j]? = some u → w.cell? ⟨b, o + j, none⟩ = some u := by
 obtain ⟨p, cap, rfl, hc, h⟩ := h
 cases xs with
 | nil => exact absurd rfl hne
 | cons a xs =>
  obtain ⟨b, o, rfl, _⟩ := h 0 a rfl
  refine ⟨b, o, cap, rfl, hc, fun j u hj => ?_⟩
  obtain ⟨c, h1, h2⟩ := flatMap_get_inv E _ j u hj
  obtain ⟨b', o', he, hr⟩ := h _ c h1
  simp at he
  obtain ⟨rfl, rfl⟩ := he
  have := hr _ _ h2
  rw [Nat.add_assoc, Nat.mul_comm, Nat.div_add_mod] at this
  exact this

theorem one_flatMap (xs : List α) : ∀ u ∈ xs.flatMap E.enc, u.oneCell' = true := by
 intro u hu
 obtain ⟨a, _, ha⟩ := List.mem_flatMap.1 hu
 exact E.one a u ha

theorem run_append_vec {t : TypeId} {i : TypeInfo} {z : Value} {xv : Value} {l xs : List α} (S : Own X w0 w L) (j : Nat) (hj : L[j]? = some (vec E v l)) (hr : Rd E w xv xs)
  (ht : P.underlying t = some (.slice E.T)) (hi : P.info? E.T = some i) (hz : i.zero = some z) (hsz : i.size = E.sz) (hzc : z.cells.size = E.sz)
  (h63 : l.length + xs.length ≤ maxLen) (h47 : (l.length + xs.length) * i.bytes ≤ 140737488355328) :
  ∃ v' w', (Builtin.append_ #[t, t] ty #[v, xv]).run P w = .ok v' w' ∧ Own X w0 w' (L.set j (vec E v' (l ++ xs))) ∧ Keep (vec E v l).fp w w' ∧ (l ++ xs ≠ [] → ∃ b cap, v' = .slice (some ⟨b, 0, none⟩) (l.length + xs.length) cap) := by
 have hpos := E.pos
 have hok := S.at j hj
 by_cases hxs : xs = []
 ·subst hxs
  obtain ⟨p, xcap, rfl, _, _⟩ := hr
  refine ⟨v, w, ?_, ?_, Keep.refl _ _, ?_⟩
  ·have hu := run_underlying ht
   have hs : ∀ w, (sizeOf E.T).run P w = .ok i.size w := fun w => by simp [sizeOf, typeInfo, hi, go_sem]
   rcases hok with ⟨rfl, rfl⟩ | ⟨b', cap, c, rfl, h1, h2, h3, h4, hb⟩
   ·cases p <;> simp [Builtin.append_, hu, hs, Builtin.lenOf, Builtin.firstCells, loadCells, loadCellsFrom, go_sem]
   cases p <;> simp [Builtin.append_, hu, hs, Builtin.lenOf, Builtin.firstCells, loadCells, loadCellsFrom, storeCells, h1, go_sem]
  ·rw [List.append_nil]
   exact S.as j hj hok (fun _ h => h)
  intro hne
  rcases hok with ⟨rfl, rfl⟩ | ⟨b', cap, c, rfl, h1, h2, h3, h4, hb⟩
  ·simp at hne
  exact ⟨b', cap, by simp⟩
 obtain ⟨xb, xo, xcap, rfl, hxc, hcells⟩ := rd_cells hr hxs
 have hx0 : 0 < xs.length := List.length_pos_iff.2 hxs
 have hnl : (xs.flatMap E.enc).length = xs.length * i.size := by rw [hsz, flatMap_enc_length]
 have hnews : ∀ q u, (xs.flatMap E.enc)[q]? = some u → w.cell? ((⟨xb, xo, none⟩ : Addr).add q) = some u := fun q u hq => by rw [addr_add]; exact hcells q u hq
 have h63' : l.length + xs.length ≤ 9223372036854775807 := by simp only [maxLen] at h63; omega
 have fresh : ∀ (cap' : Nat) (A : Array Value) (tail : List Value), A = ((l ++ xs).flatMap E.enc ++ tail).toArray → l.length + xs.length ≤ cap' → cap' ≤ maxLen → tail.length = (cap' - (l.length + xs.length)) * E.sz →
   Own X w0 (w.drew.alloc (.cells A E.T)) (L.set j (vec E (.slice (some ⟨w.heap.size, 0, none⟩) (l.length + xs.length) cap') (l ++ xs))) ∧ Keep (vec E v l).fp w (w.drew.alloc (.cells A E.T)) := by
  intro cap' A tail hA hc hcm htl
  subst hA
  have hle : Le w (w.drew.alloc (.cells ((l ++ xs).flatMap E.enc ++ tail).toArray E.T)) := (Le.drew w).trans (Le.alloc_cells _ _ _)
  refine ⟨S.turn (Y := nob) j hj hle (fun _ _ h => h.elim) (.inr ⟨w.heap.size, cap', (l ++ xs).flatMap E.enc ++ tail, by rw [List.length_append], by rw [List.length_append]; exact hc, hcm, ?_, ?_, Blk.new w.drew _ E.T⟩) (fun bb hb => ?_), hle.of_le⟩
  ·rw [List.length_append, flatMap_enc_length, List.length_append, htl, ← Nat.add_mul]
   congr 1; omega
  ·rw [← flatMap_enc_length E (l ++ xs), List.take_left]
  obtain ⟨n', c', he⟩ := hb
  simp only [Value.slice.injEq, Option.some.injEq, Addr.mk.injEq] at he
  right; rw [← he.1.1]; simp
 rcases hok with ⟨rfl, rfl⟩ | ⟨b', cap, c, rfl, h1, h2, h3, h4, hb⟩
 ·have hrun := run_append_nil (P := P) w t ty E.T i z ht hi hz ⟨xb, xo, none⟩ xs.length xcap (xs.flatMap E.enc) hnl hnews hx0 (by simp only [List.length_nil] at h63'; omega) (by simp only [List.length_nil, Nat.zero_add] at h47; omega)
  have e0 : ([] : List α).length + xs.length = xs.length := by simp
  rw [e0] at fresh h63
  have hf := fresh (grownCap w xs.length 0 E.T) ((xs.flatMap E.enc).toArray ++ Builtin.zeroCells z.cells (grownCap w xs.length 0 E.T - xs.length)) (Builtin.zeroCells z.cells (grownCap w xs.length 0 E.T - xs.length)).toList (by apply Array.ext'; simp) (grownCap_ge w xs.length 0 E.T)
   (grownCap_le_maxLen w xs.length 0 E.T h63) (by rw [Array.length_toList, size_zeroCells, hzc])
  exact ⟨_, _, hrun, hf.1, hf.2, fun _ => ⟨_, _, by rw [e0]⟩⟩
 have hb' : w.heap[b']? = some (.cells c.toArray E.T (0, 0)) := hb
 by_cases hroom : l.length + xs.length ≤ cap
 ·have hfit : l.length * i.size + (xs.flatMap E.enc).length ≤ c.toArray.size := by
   rw [hnl, hsz, ← Nat.add_mul, List.size_toArray, h3]; exact Nat.mul_le_mul_right _ hroom
  have hrun := run_append_room (P := P) w t ty E.T i ht hi b' l.length cap c.toArray hb' ⟨xb, xo, none⟩ xs.length xcap (xs.flatMap E.enc) hnl hnews (one_flatMap xs) hroom hfit
  simp only [hsz, List.size_toArray] at hrun hfit
  have hK : Keep (vec E (.slice (some ⟨b', 0, none⟩) l.length cap) l).fp w (w.setRow b' (c.take (l.length * E.sz) ++ xs.flatMap E.enc ++ c.drop (l.length * E.sz + (xs.flatMap E.enc).length)).toArray) :=
   (Keep.setRow w _).mono fun bb _ e => ⟨l.length, cap, by subst e; rfl⟩
  refine ⟨_, _, hrun, S.turn j hj hK (fun _ _ h => h) (.inr ⟨b', cap, c.take (l.length * E.sz) ++ xs.flatMap E.enc ++ c.drop (l.length * E.sz + (xs.flatMap E.enc).length), by simp, by simpa using hroom, h2, ?_, ?_, setRow_heap w b' _ _ E.T _ hb⟩) (fun bb hbb => .inl ?_), hK, fun _ => ⟨_, _, rfl⟩⟩
  ·have := splice_length (c := c) (vs := xs.flatMap E.enc) (o := l.length * E.sz) hfit
   rw [splice] at this
   rw [this, h3]
  ·rw [h4, List.length_append, ← List.flatMap_append, ← List.length_append, ← flatMap_enc_length E (l ++ xs), List.take_left]
  obtain ⟨n', c', he⟩ := hbb
  simp at he
  exact ⟨_, _, by rw [he.1]⟩
 have holds : ∀ q u, (l.flatMap E.enc)[q]? = some u → w.cell? ((⟨b', 0, none⟩ : Addr).add q) = some u := by
  intro q u hq
  rw [addr_add, Nat.zero_add]
  refine hb.cell ?_
  rw [← h4, List.getElem?_take] at hq
  split at hq
  ·exact hq
  cases hq
 have hrun := run_append_grow (P := P) w t ty E.T i z ht hi hz ⟨b', 0, none⟩ l.length cap (l.flatMap E.enc) (by rw [hsz, flatMap_enc_length]) holds ⟨xb, xo, none⟩ xs.length xcap (xs.flatMap E.enc) hnl hnews (by omega) (by omega)
  (growslice_fits (by omega) h47)
 have hf := fresh (grownCap w (l.length + xs.length) cap E.T) ((l.flatMap E.enc).toArray ++ (xs.flatMap E.enc).toArray ++ Builtin.zeroCells z.cells (grownCap w (l.length + xs.length) cap E.T - (l.length + xs.length))) (Builtin.zeroCells z.cells (grownCap w (l.length + xs.length) cap E.T - (l.length + xs.length))).toList (by apply Array.ext'; simp [List.flatMap_append]) (grownCap_ge w _ cap E.T)
  (grownCap_le_maxLen w _ cap E.T h63) (by rw [Array.length_toList, size_zeroCells, hzc])
 exact ⟨_, _, hrun, hf.1, hf.2, fun _ => ⟨_, _, rfl⟩⟩

theorem l_append (E : Elt α) {i : TypeInfo} {z : Value} {xv : Value} {l xs : List α} (S : Own X w0 w L) (j : Nat) (hj : L[j]? = some (vec E v l)) (hg : gOk all n ρ g = true) (hx : ev n ρ x = v) (hy : ev n ρ y = xv) (hr : Rd E w xv xs)
  (ht : P.underlying T = some (.slice E.T)) (hi : P.info? E.T = some i) (hz : i.zero = some z) (hsz : i.size = E.sz) (hzc : z.cells.size = E.sz)
  (h63 : l.length + xs.length ≤ maxLen) (h47 : (l.length + xs.length) * i.bytes ≤ 140737488355328)
  (h : ∀ v' w', Own X w0 w' (L.set j (vec E v' (l ++ xs))) → Keep (vec E v l).fp w w' → (l ++ xs ≠ [] → ∃ b cap, v' = .slice (some ⟨b, 0, none⟩) (l.length + xs.length) cap) → RunL P b cs fin n all rest k (upd ρ d v') ds w') :
  RunL P b cs fin n all (⟨some d, .call ⟨.builtin .append, #[x, y], #[T, T]⟩, ty, pos, af, g⟩ :: rest) k ρ ds w := by
 obtain ⟨v', w', hrun, h1, h2, h3⟩ := run_append_vec (P := P) (ty := ty) S j hj hr ht hi hz hsz hzc h63 h47
 refine l_x hg ⟨nofun, fun _ _ _ _ => ?_⟩ (h v' w' h1 h2 h3)
 simp only [execOp, resolve, Sem.run_bind, Sem.run_pure, Result.andThen_ok, invoke, builtin, List.map_toArray, List.map_cons, List.map_nil, hx, hy, hrun]


theorem l_storev {b' o f : Nat} {i : Nat} {l : List α} {a a' : α} {vs : List Value} (S : Own X w0 w L) (j : Nat) (hj : L[j]? = some (vec E v l)) (hg : gOk all n ρ g = true) (hat : At E v i ⟨b', o, none⟩)
  (hx : ev n ρ x = .pointer (some ⟨b', o + f, none⟩)) (hy : (ev n ρ y).cells = vs.toArray) (hs : ∀ w, (sizeOf T).run P w = .ok vs.length w) (h1 : ∀ u ∈ vs, u.oneCell' = true) (ha : l[i]? = some a) (hf : f + vs.length ≤ E.sz)
  (he : splice (E.enc a) f vs = E.enc a') (h : ∀ w', Own X w0 w' (L.set j (vec E v (l.set i a'))) → Keep (vec E v l).fp w w' → RunL P b cs fin n all rest k (updO d' undef ρ) ds w') :
  RunL P b cs fin n all (⟨d', .store T x y, ty, pos, af, g⟩ :: rest) k ρ ds w := by
 obtain ⟨bb, oo, len, cap0, hv, hadr⟩ := hat
 have hok := S.at j hj
 rcases hok with ⟨rfl, rfl⟩ | ⟨b2, cap, c, hv2, g1, g2, g3, g4, hb⟩
 ·cases hv
 rw [hv2] at hv
 simp only [Value.slice.injEq, Option.some.injEq, Addr.mk.injEq, and_true] at hv
 obtain ⟨⟨rfl, rfl⟩, rfl, rfl⟩ := hv
 simp only [Addr.mk.injEq, and_true, Nat.zero_add] at hadr
 obtain ⟨rfl, rfl⟩ := hadr
 have hil : i < l.length := (List.getElem?_eq_some_iff.1 ha).1
 have hbound : i * E.sz + f + vs.length ≤ l.length * E.sz := by
  have : (i + 1) * E.sz ≤ l.length * E.sz := Nat.mul_le_mul_right _ hil
  rw [Nat.add_mul] at this; omega
 have hcl : l.length * E.sz ≤ c.length := by rw [g3]; exact Nat.mul_le_mul_right _ g1
 have hK : Keep (vec E v l).fp w (w.setRow b' (splice c (i * E.sz + f) vs).toArray) := (Keep.setRow w _).mono fun bb _ e => ⟨l.length, cap, by subst e; exact hv2⟩
 refine l_skip hg nofun (w' := w.setRow b' (splice c (i * E.sz + f) vs).toArray) ?_ (h _ (S.turn j hj hK (fun _ _ h => h) (.inr ⟨b', cap, splice c (i * E.sz + f) vs, by simpa using hv2, by simpa using g1, g2, ?_, ?_, setRow_heap w b' _ _ E.T _ hb⟩) (fun _ h => .inl h)) hK)
 ·have hr := run_storeCells_at P b' (i * E.sz + f) E.T vs 0 c.toArray w hb (by simp; omega) h1
  simp only [execOp, hx, Instr.storeAt, Instr.sureAddr, Sem.run_bind, Sem.run_pure, Result.andThen_ok, storeVar, hs]
  rw [hy]
  simp only [List.size_toArray, ne_eq, not_true_eq_false, if_false]
  rw [hr]
  simp only [Result.andThen_ok, Nat.add_zero]
  rfl
 ·rw [splice_length (by omega), g3]
 rw [List.length_set, take_splice hbound hcl, g4, flatMap_splice E l i f a a' vs ha hf he]


end
end Go.Vk

namespace Go.Vk
open Go

def intE (T : TypeId) : Elt Int where
 T := T
 sz := 1
 enc x := [.int .i64 x]
 zero := [.int .i64 0]
 len _ := rfl
 zlen := rfl
 one a x h := by simp at h; subst h; rfl
 pos := by decide

def boolE (T : TypeId) : Elt Bool where
 T := T
 sz := 1
 enc x := [.bool x]
 zero := [.bool false]
 len _ := rfl
 zlen := rfl
 one a x h := by simp at h; subst h; rfl
 pos := by decide

section
variable {P : Program} {b : Frame} {cs : List Frame} {fin : Machine → Prop} {n : Nat} {all : Array Oper} {rest : List Oper} {k : List Item} {ρ : Env} {ds : List Deferred} {w w' : World}
 {d : Nat} {d' : Option Nat} {ty : TypeId} {pos : String} {af : Array Edge} {g : Option (Nat × Bool)} {T : TypeId} {x y : Operand} {v : Value}

theorem x_len {ev : Operand → Value} {α : Type} {E : Elt α} {l : List α} {e A : TypeId} (hr : Rd E w v l) (hx : ev x = v) (hu : ∀ w, (underlying A).run P w = .ok (.slice e) w) {w1 : World} :
  X P ev (.call ⟨.builtin .len, #[x], #[A]⟩) ty w1 (.int .i64 l.length) w1 := by
 obtain ⟨p, cap, rfl, _, _⟩ := hr
 exact x_len_slice hx hu

theorem w_index {α : Type} (L : Elt α) {K : Env → Prop} {l : List α} {i : Int} {q : α} (hg : gOk all n ρ g = true) (hr : Rd L w v l) (hx : ev n ρ x = v) (hy : ev n ρ y = .int .i64 i)
  (hu : ∀ w, (underlying T).run P w = .ok (.slice L.T) w) (hs : ∀ w, (sizeOf L.T).run P w = .ok L.sz w) (hb : 0 ≤ i) (hi : l[i.toNat]? = some q)
  (h : ∀ b' o', At L v i.toNat ⟨b', o', none⟩ → Row w b' o' (L.enc q) → RW P all n w K rest (upd ρ d (.pointer (some ⟨b', o', none⟩)))) :
  RW P all n w K (⟨some d, .indexAddr T x y, ty, pos, af, g⟩ :: rest) ρ := by
 obtain ⟨p, cap, rfl, hc, hrow⟩ := hr
 obtain ⟨b', o', rfl, hrw⟩ := hrow i.toNat q hi
 have hlt : i.toNat < l.length := (List.getElem?_eq_some_iff.1 hi).1
 exact w_x hg (fun w1 _ => x_indexAddr_slice hx hy hu hs ⟨hb, by omega⟩) (h b' (o' + i.toNat * L.sz) ⟨b', o', _, _, rfl, rfl⟩ hrw)

end
end Go.Vk

namespace Go.Vk
open Go


def noCells : Obj → Bool
 | .cells .. => false
 | _ => true

def obj (b : Nat) (o : Obj) : Rsc := ⟨(· = b), fun w => w.heap[b]? = some o, fun h hb => (h b rfl).trans hb⟩

def put (w : World) (b : Nat) (o : Obj) : World := { w with heap := w.heap.setIfInBounds b o }

theorem Le.alloc_obj (w : World) (o : Obj) : Le w (w.alloc o) :=
 ⟨rfl, rfl, rfl, by simp, fun b hb _ => heap_alloc_old w _ b hb, Nat.le_refl _⟩

theorem put_same {w : World} {b : Nat} {o o' : Obj} (h : w.heap[b]? = some o) : (put w b o').heap[b]? = some o' := by
 have hlt := (Array.getElem?_eq_some_iff.1 h).1
 simp [put, hlt]
theorem put_other {w : World} {b i : Nat} {o : Obj} (h : i ≠ b) : (put w b o).heap[i]? = w.heap[i]? := by
 simp [put, Array.getElem?_setIfInBounds_ne (Ne.symm h)]

theorem Keep.put (w : World) (b : Nat) (o' : Obj) : Keep (· = b) w (put w b o') :=
 ⟨rfl, rfl, rfl, by simp [Vk.put], fun i _ hi => put_other hi, Nat.le_refl _⟩

section own
variable {X : Nat → Prop} {w0 w w' : World} {L : List Rsc} {b : Nat} {o o' : Obj}
theorem Own.obj (S : Own X w0 w L) (j : Nat) (hj : L[j]? = some (Vk.obj b o)) : w.heap[b]? = some o := S.ok j _ hj
theorem Own.put (S : Own X w0 w L) (j : Nat) (hj : L[j]? = some (Vk.obj b o)) (o' : Obj) : Own X w0 (Vk.put w b o') (L.set j (Vk.obj b o')) :=
 S.turn j hj (Keep.put w b o') (fun _ _ h => h) (put_same (S.obj j hj)) (fun _ h => .inl h)
theorem Own.allocObj (S : Own X w0 w L) (o : Obj) : Own X w0 (w.alloc o) (L ++ [Vk.obj w.heap.size o]) :=
 S.add (Le.alloc_obj w o) ⟨heap_alloc_new w o, fun b hb => by cases hb; simp⟩
end own

theorem run_getObj {P : Program} {w : World} {b : Nat} {o : Obj} (h : w.heap[b]? = some o) (ho : noCells o = true) : (getObj b).run P w = .ok o w := by
 simp only [getObj, Sem.run, h]
 cases o <;> first | rfl | simp [noCells] at ho
theorem run_setObj {P : Program} {w : World} {b : Nat} {o o' : Obj} (h : w.heap[b]? = some o) (ho : noCells o = true) : (setObj b o').run P w = .ok () (put w b o') := by
 simp only [setObj, Sem.run, h]
 cases o <;> first | rfl | simp [noCells] at ho
theorem run_getLoop {P : Program} {w : World} {l : Nat} {r : Loop} (h : w.heap[l]? = some (.loop r)) : (Instr.getLoop l).run P w = .ok r w := by
 simp only [Instr.getLoop, Sem.run_bind, run_getObj h rfl, Result.andThen_ok]
 rfl

def lrec (fn n : Nat) (ρ : Env) (ps : Array Tmp) (assign body : Code) (D : Nat) (st : LoopState) (pe : Option Code) : Loop :=
 { state := st, pending := pe, fn, tmps := (mkA n ρ []).tmps, params := ps, assign, body, defers := D }

def mark (D : Nat) : Deferred := { target := .collected D, args := #[] }

section
variable {P : Program} {b : Frame} {cs : List Frame} {fin : Machine → Prop} {n : Nat} {k : List Item} {ρ : Env} {ds : List Deferred} {w : World} {X : Nat → Prop} {w0 : World} {L : List Rsc}

theorem r_rangeFunc {f : Operand} {ps : Array Tmp} {assign body : Code} {gf : FuncId} (first cap : List Value) (S : Own X w0 w L) (hro : b.roundOf = none) (hF : ev n ρ f = .func (.func gf) first.toArray cap.toArray)
  (he : ∀ args w, (callFunc gf args).run P w = .ok (.enter gf args) w)
  (h : ∀ D l w1, Own X w0 w1 (L ++ [obj D (.deferred (some [])), obj l (.loop (lrec b.fn n ρ ps assign body D .ready none))]) → Le w w1 →
   Cl P gf (first ++ .func (.yield l) #[] #[] :: cap).toArray w1 fun _ w2 => Run P b cs fin n (.endRangeFunc l :: k) ρ (mark D :: ds) w2) :
  Run P b cs fin n (.code (.rangeFunc f ps assign body) :: k) ρ ds w := by
 have S1 := S.allocObj (.deferred (some []))
 have S2 := S1.allocObj (.loop (lrec b.fn n ρ ps assign body w.heap.size .ready none))
 rw [List.append_assoc] at S2
 have hle : Le w ((w.alloc (.deferred (some []))).alloc (.loop (lrec b.fn n ρ ps assign body w.heap.size .ready none))) := (Le.alloc_obj w _).trans (Le.alloc_obj _ _)
 have hent : (Instr.enterLoop b.fn (mkA n ρ ds).tmps ps assign body b.roundOf).run P w =
   .ok ((w.alloc (.deferred (some []))).heap.size, [mark w.heap.size]) ((w.alloc (.deferred (some []))).alloc (.loop (lrec b.fn n ρ ps assign body w.heap.size .ready none))) := by
  rw [hro]
  rfl
 have hev : (mkA n ρ ds).eval f = .func (.func gf) first.toArray cap.toArray := by rw [mkA_eval]; exact hF
 obtain ⟨e, w2, fr, ⟨v, rfl, hR⟩, hs, _, hl⟩ := h _ _ _ S2 hle (b.atR (mkA n ρ (mark w.heap.size :: ds)) (.inRangeFunc (w.alloc (.deferred (some []))).heap.size :: k) :: cs)
 obtain ⟨W, hW⟩ : ∃ W, W = (w.alloc (.deferred (some []))).alloc (.loop (lrec b.fn n ρ ps assign body w.heap.size .ready none)) := ⟨_, rfl⟩
 rw [← hW] at hent hs
 have hres : (resolve (mkA n ρ ds).eval (rangeCall f (w.alloc (.deferred (some []))).heap.size) 0).run P W = .ok { target := .fn (.func gf) cap.toArray, args := first.toArray ++ #[.func (.yield (w.alloc (.deferred (some []))).heap.size) #[] #[]] } W := by
  have hc : (#[Operand.const (.func (.yield (w.alloc (.deferred (some []))).heap.size) #[] #[])]).map (mkA n ρ ds).eval = #[.func (.yield (w.alloc (.deferred (some []))).heap.size) #[] #[]] := by simp [Act.eval]
  change (Deferred.ofValue ((mkA n ρ ds).eval f) ((#[Operand.const (.func (.yield (w.alloc (.deferred (some []))).heap.size) #[] #[])]).map (mkA n ρ ds).eval)).run P W = _
  rw [hev, hc]
  simp only [Deferred.ofValue, Sem.run_pure]
 have hinv : (invoke (.fn (.func gf) cap.toArray) (first.toArray ++ #[.func (.yield (w.alloc (.deferred (some []))).heap.size) #[] #[]])).run P W = .ok (.enter gf (first.toArray ++ #[.func (.yield (w.alloc (.deferred (some []))).heap.size) #[] #[]] ++ cap.toArray)) W := by
  simp only [invoke, he]
 have hstep := stepR_rangeFunc (P := P) (b := b) (a := mkA n ρ ds) (k := k) (cs := cs) (w := w) hent hres hinv
 obtain ⟨m, hm, hf⟩ := hR
 refine ⟨m, .head hstep ?_, hf⟩
 have ea : (first.toArray ++ #[.func (.yield (w.alloc (.deferred (some []))).heap.size) #[] #[]] ++ cap.toArray : Array Value) = (first ++ Value.func (.yield (w.alloc (.deferred (some []))).heap.size) #[] #[] :: cap).toArray := by simp
 rw [ea]
 refine Steps.trans hs (.head (step_leave_returned hl) ?_)
 rw [finish_atR_inRangeFunc]
 exact hm

theorem r_endRange {l : Nat} {rec : Loop} (S : Own X w0 w L) (j : Nat) (hj : L[j]? = some (obj l (.loop rec))) (hs : (rec.state == LoopState.busy) = false)
  (h : ∀ w', Own X w0 w' (L.set j (obj l (.loop { rec with state := .exhausted }))) → Keep (· = l) w w' → Run P b cs fin n ((rec.pending.map Item.code).toList ++ k) ρ ds w') :
  Run P b cs fin n (.endRangeFunc l :: k) ρ ds w := by
 have ho := S.obj j hj
 refine (h _ (S.put j hj _) (Keep.put _ _ _)).of_step (stepR_endRangeFunc ?_)
 simp only [Instr.endLoop, Sem.run_bind, run_getLoop ho, Result.andThen_ok]
 rw [hs]
 simp only [Bool.false_eq_true, if_false, Sem.run_bind, run_setObj ho rfl, Result.andThen_ok, Sem.run_pure]


def frameR (f l : Nat) : Frame := { (default : Frame) with fn := f, kind := .normal, roundOf := some l }

def finRound (c : Frame) (cs : List Frame) (R : Value → World → Prop) : Machine → Prop := fun m => ∃ v w', m = lone (c.finish v) cs w' ∧ R v w'

def Yl (P : Program) (l : Nat) (args : Array Value) (w : World) (R : Value → World → Prop) : Prop :=
 ∃ fn tmps assign body, (Instr.yield l args).run P w = .ok (.round l fn tmps assign body) w ∧ ∀ c cs, ∃ v w', R v w' ∧ Steps P (lone (Frame.round l fn tmps assign body .normal) (c :: cs) w) (lone (c.finish v) cs w')

theorem Yl.mono {l : Nat} {args : Array Value} {R R' : Value → World → Prop} (h : Yl P l args w R) (hr : ∀ v w', R v w' → R' v w') : Yl P l args w R' := by
 obtain ⟨fn, tmps, assign, body, h1, h2⟩ := h
 exact ⟨fn, tmps, assign, body, h1, fun c cs => let ⟨v, w', r, s⟩ := h2 c cs; ⟨v, w', hr _ _ r, s⟩⟩

def setps (ρ : Env) : List (Nat × Value) → Env
 | [] => ρ
 | (t, v) :: l => setps (upd ρ t v) l

theorem foldl_setps : ∀ (l : List (Nat × Value)) (ρ : Env), l.foldl (fun (tmps : Array Value) (p : Nat × Value) => tmps.setIfInBounds p.1 p.2) (mkA n ρ []).tmps = (mkA n (setps ρ l) []).tmps := by
 intro l
 induction l with
 | nil => intro ρ; rfl
 | cons p l ih =>
  intro ρ
  obtain ⟨t, v⟩ := p
  have := congrArg Act.tmps (mkA_put n ρ [] t v)
  simp only [Act.put] at this
  simp only [List.foldl_cons, this, ih]
  rfl

theorem yl_of_run {l fn D : Nat} {ps : List Tmp} {vals : List Value} {assign body : Code} {R : Value → World → Prop} (hl : w.heap[l]? = some (.loop (lrec fn n ρ ps.toArray assign body D .ready none))) (hn : vals.length = ps.length)
  (h : ∀ c cs, Run P (frameR fn l) (c :: cs) (finRound c cs R) n [.code assign, .beginRound, .code body] (setps ρ (ps.zip vals)) [] w) : Yl P l vals.toArray w R := by
 refine ⟨fn, (mkA n (setps ρ (ps.zip vals)) []).tmps, assign, body, ?_, fun c cs => ?_⟩
 ·simp only [Instr.yield, Sem.run_bind, run_getLoop hl, Result.andThen_ok]
  have hsz : ¬ (vals.toArray.size ≠ (lrec fn n ρ ps.toArray assign body D .ready none).params.size) := by simp [lrec, hn]
  rw [if_neg hsz]
  simp only [Sem.run_pure, lrec]
  congr 2
  rw [← foldl_setps (ps.zip vals) ρ]
  have : (ps.toArray.zip vals.toArray) = (ps.zip vals).toArray := by simp
  rw [this, List.foldl_toArray]
 obtain ⟨m, hs, v, w', rfl, hR⟩ := h c cs
 exact ⟨v, w', hR, hs⟩

variable {c : Frame} {R : Value → World → Prop} {fn l : Nat} {rec : Loop}

theorem r_beginRound (S : Own X w0 w L) (j : Nat) (hj : L[j]? = some (obj l (.loop rec))) (hs : rec.state = .ready)
  (h : ∀ w', Own X w0 w' (L.set j (obj l (.loop { rec with state := .busy }))) → Keep (· = l) w w' → Run P (frameR fn l) cs fin n k ρ ds w') :
  Run P (frameR fn l) cs fin n (.beginRound :: k) ρ ds w := by
 have ho := S.obj j hj
 refine (h _ (S.put j hj _) (Keep.put _ _ _)).of_step (stepR_beginRound (l := l) rfl ?_)
 simp only [Instr.beginRound, Sem.run_bind, run_getLoop ho, Result.andThen_ok, run_setObj ho rfl, hs]
 rfl

theorem run_endRound' {jump : Option Code} (ho : w.heap[l]? = some (.loop rec)) :
  (Instr.endRound l jump).run P w = .ok (.bool jump.isNone) (put w l (.loop { rec with state := if jump.isNone then .ready else .done, pending := jump })) := by
 simp only [Instr.endRound, Sem.run_bind, run_getLoop ho, Result.andThen_ok, run_setObj ho rfl, Sem.run_pure]

theorem r_roundEnd (S : Own X w0 w L) (j : Nat) (hj : L[j]? = some (obj l (.loop rec)))
  (h : ∀ w', Own X w0 w' (L.set j (obj l (.loop { rec with state := .ready, pending := none }))) → R (.bool true) w') :
  Run P (frameR fn l) (c :: cs) (finRound c cs R) n [] ρ ds w := by
 have ho := S.obj j hj
 exact ⟨_, .one (stepR_round_end (l := l) rfl rfl (run_endRound' (jump := none) ho)), _, _, rfl, h _ (S.put j hj _)⟩
theorem r_roundRet (S : Own X w0 w L) (j : Nat) (hj : L[j]? = some (obj l (.loop rec)))
  (h : ∀ w', Own X w0 w' (L.set j (obj l (.loop { rec with state := .done, pending := some .ret }))) → R (.bool false) w') :
  Run P (frameR fn l) (c :: cs) (finRound c cs R) n (.code .ret :: k) ρ ds w := by
 have ho := S.obj j hj
 exact ⟨_, .one (stepR_round_ret (l := l) rfl rfl (run_endRound' (jump := some .ret) ho)), _, _, rfl, h _ (S.put j hj _)⟩
theorem l_yield {all : Array Oper} {rest : List Oper} {d' : Option Nat} {ty : TypeId} {pos : String} {af : Array Edge} {g : Option (Nat × Bool)} {F : Operand} {as : List Operand} {ts : Array TypeId} (vals : List Value)
  (hg : gOk all n ρ g = true) (hF : ev n ρ F = .func (.yield l) #[] #[]) (ha : as.map (ev n ρ) = vals) (hy : Yl P l vals.toArray w R)
  (h : ∀ v w', R v w' → RunL P b cs fin n all rest k (updO d' v ρ) ds w') :
  RunL P b cs fin n all (⟨d', .call ⟨.value F, as.toArray, ts⟩, ty, pos, af, g⟩ :: rest) k ρ ds w := by
 intro is his
 obtain ⟨i, is', rfl, ho, his'⟩ := is_cons his
 obtain ⟨fn', tmps, assign, body, hyr, hrun⟩ := hy
 obtain ⟨v, w', hR, hs⟩ := hrun (b.atR (mkA n ρ ds) (.inRegion all (i :: is') :: k)) cs
 have hr : (execOp (ev n ρ) ⟨d', .call ⟨.value F, as.toArray, ts⟩, ty, pos, af, g⟩).run P w = .ok (.round l fn' tmps assign body) w := by
  simp only [execOp, resolve, hF, Deferred.ofValue, Sem.run_bind, Sem.run_pure, Result.andThen_ok, invoke, List.map_toArray, ha]
  simpa using hyr
 have hent : step P (lone (b.atR (mkA n ρ ds) (.inRegion all (i :: is') :: k)) cs w) = .next (lone (Frame.round l fn' tmps assign body .normal) (b.atR (mkA n ρ ds) (.inRegion all (i :: is') :: k) :: cs) w) := by
  refine step_lone_go ?_
  rw [stepGR_op ho (by rw [wanted_gOk]; exact hg), Oper.semAt_eq _ _ _ (fun _ hc => by cases hc), mkA_eval]
  simp [stepG.apply, hr, Frame.atR]
 obtain ⟨m, hm, hf⟩ := h v w' hR is' his'
 refine ⟨m, .head hent (Steps.trans hs ?_), hf⟩
 rw [finish_mkA ho]
 exact hm
end


def Leave (P : Program) (b : Frame) (cs : List Frame) (fin : Machine → Prop) (n : Nat) (k : List Item) (ρ : Env) (ds : List Deferred) (w : World) : Prop :=
 ∃ m, Steps P (lone { b.atR (mkA n ρ ds) k with mode := .returning } cs w) m ∧ fin m

section
variable {P : Program} {b : Frame} {cs : List Frame} {fin : Machine → Prop} {n : Nat} {k : List Item} {ρ : Env} {ds : List Deferred} {w : World} {X : Nat → Prop} {w0 : World} {L : List Rsc} {f : FuncId} {R : Value → World → Prop}

theorem r_retL (hb : b.roundOf = none) (h : Leave P b cs fin n (.code .ret :: k) ρ ds w) : Run P b cs fin n (.code .ret :: k) ρ ds w :=
 let ⟨m, h1, h2⟩ := h; ⟨m, .head (stepR_ret hb) h1, h2⟩
theorem leave_done {F : Func} {rs : List ResultVar} (vs : List Value) (hf : P.funcs[f]? = some F) (hr : F.results = rs.toArray) (hv : Res P n ρ w rs vs) (hR : R (packed vs) w) :
  Leave P (frameOf f) cs (finRet P f cs R) n k ρ [] w :=
 ⟨_, .refl _ _, _, w, _, rfl, hR, rfl, rfl, rfl, rfl, F, hf, results_run (ds := []) hr hv⟩

theorem leave_mark {D : Nat} (S : Own X w0 w L) (j : Nat) (hj : L[j]? = some (obj D (.deferred (some []))))
  (h : ∀ w', Own X w0 w' (L.set j (obj D (.deferred none))) → Keep (· = D) w w' → Leave P b cs fin n k ρ ds w') :
  Leave P b cs fin n k ρ (mark D :: ds) w := by
 have ho := S.obj j hj
 obtain ⟨m, h1, h2⟩ := h _ (S.put j hj _) (Keep.put _ _ _)
 refine ⟨m, .head (step_collected (d := mark D) (r := D) (ds := ds) (calls := []) (w' := put w D (.deferred none)) (by simp) rfl rfl ?_) h1, h2⟩
 simp only [Instr.takeDeferred, Sem.run_bind, run_getObj ho rfl, Result.andThen_ok, run_setObj ho rfl, Sem.run_pure]
end
end Go.Vk

namespace Go.Vk
open Go

def tab (n : Nat) (f : Nat → Int) : List Value := (List.range n).map fun v => .int .i64 (f v)
def upf (f : Nat → Int) (i : Nat) (x : Int) : Nat → Int := fun v => if v = i then x else f v
section
variable {P : Program} {b : Frame} {cs : List Frame} {fin : Machine → Prop} {n : Nat} {all : Array Oper} {rest : List Oper} {k : List Item} {ρ : Env} {ds : List Deferred} {w w' : World}
 {d : Nat} {ty : TypeId} {pos : String} {af : Array Edge} {g : Option (Nat × Bool)} {T T' : TypeId} {x y : Operand}

theorem l_storeq {X : Nat → Prop} {w0 : World} {L : List Rsc} {b' o : Nat} {c c' : List Value} {T0 : TypeId} {v : Value} {d' : Option Nat} (S : Own X w0 w L) (j : Nat) (hj : L[j]? = some (blk b' c T0)) (hg : gOk all n ρ g = true)
  (hx : ev n ρ x = .pointer (some ⟨b', o, none⟩)) (hy : ev n ρ y = v) (h1 : v.oneCell' = true) (hs : ∀ w, (sizeOf T).run P w = .ok 1 w) (ho : o < c.length) (hc : c.set o v = c')
  (h : ∀ w', Own X w0 w' (L.set j (blk b' c' T0)) → Keep (· = b') w w' → RunL P b cs fin n all rest k (updO d' undef ρ) ds w') :
  RunL P b cs fin n all (⟨d', .store T x y, ty, pos, af, g⟩ :: rest) k ρ ds w := by
 subst hc
 exact l_store S j hj hg hx hy h1 hs ho h

variable {E : Operand → Value}

end
end Go.Vk

namespace Go.Vk
open Go

def nilR : Rsc := ⟨nob, fun _ => True, fun _ h => h⟩

def pack (L : List Rsc) : Rsc where
 fp := fun b => ∃ r ∈ L, r.fp b
 ok := fun w => (∀ r ∈ L, r.ok w) ∧ ∀ (j k : Nat) (r s : Rsc), L[j]? = some r → L[k]? = some s → j ≠ k → ∀ b, r.fp b → ¬ s.fp b
 st := fun h h' => ⟨fun r hr => r.st (fun b hb => h b ⟨r, hr, hb⟩) (h'.1 r hr), h'.2⟩

section
variable {X : Nat → Prop} {w0 w w' w1 : World} {L A M : List Rsc} {r r' : Rsc}

theorem Own.old (S : Own X w w1 L) (h0 : Le w0 w) (hX : ∀ b, X b → w0.heap.size ≤ b) : Le w0 w1 := by
 refine ⟨S.keep.os.trans h0.os, S.keep.tape.trans h0.tape, S.keep.output.trans h0.output, Nat.le_trans h0.size S.keep.size, fun b hb _ => ?_, Nat.le_trans h0.drawn S.keep.drawn⟩
 exact (S.keep.block b (Nat.lt_of_lt_of_le hb h0.size) fun hx => by have := hX b hx; omega).trans (h0.block b hb id)

theorem Own.lend (S : Own X w0 w L) (k : Nat) (hk : L[k]? = some r) : Own r.fp w w [r] := Own.lent (S.ok k r hk) fun b hb => (S.bd k r hk b hb).1
theorem Own.back (S : Own X w0 w L) (k : Nat) (hk : L[k]? = some r) (h : Own r.fp w w' [r']) : Own X w0 w' (L.set k r') :=
 S.turn k hk h.keep (fun _ _ h => h) (h.ok 0 r' rfl) fun b hb => by
  have := h.bd 0 r' rfl b hb
  rcases this with ⟨h1, h2 | h2⟩
  ·exact .inr ⟨h2, h1⟩
  exact .inl h2

theorem Own.sub (h : Own nob w w' L) : Own X w w' L :=
 ⟨.of_le h.keep, h.ok, fun k r hr b hb => ⟨(h.bd k r hr b hb).1, .inl ((h.bd k r hr b hb).2.resolve_right id)⟩, h.dj⟩

theorem Own.pack (S : Own X w0 w (A ++ L)) : Own X w0 w (A ++ [Vk.pack L]) := by
 have hL : ∀ r ∈ L, ∃ k : Nat, (A ++ L)[A.length + k]? = some r := by
  intro r hr
  obtain ⟨k, hk⟩ := List.getElem?_of_mem hr
  exact ⟨k, by rw [List.getElem?_append_right (by omega)]; simpa using hk⟩
 have hA : ∀ {k : Nat} {r : Rsc}, k < A.length → A[k]? = some r → (A ++ L)[k]? = some r := by
  intro k r hk hr; rw [List.getElem?_append_left hk]; exact hr
 refine ⟨S.keep, fun k s hs => ?_, fun k s hs b hb => ?_, fun j k s t hs ht hne b hb hb' => ?_⟩
 ·rcases getElem?_snoc hs with ⟨hk, hs⟩ | ⟨_, rfl⟩
  ·exact S.ok k s (hA hk hs)
  refine ⟨fun r hr => ?_, fun j k r s hr hs hne => ?_⟩
  ·obtain ⟨k, hk⟩ := hL r hr; exact S.ok _ r hk
  refine S.dj (A.length + j) (A.length + k) r s ?_ ?_ (by omega)
  ·rw [List.getElem?_append_right (by omega)]; simpa using hr
  rw [List.getElem?_append_right (by omega)]; simpa using hs
 ·rcases getElem?_snoc hs with ⟨hk, hs⟩ | ⟨_, rfl⟩
  ·exact S.bd k s (hA hk hs) b hb
  obtain ⟨r, hr, hb⟩ := hb
  obtain ⟨k, hk⟩ := hL r hr
  exact S.bd _ r hk b hb
 rcases getElem?_snoc hs with ⟨hj, hs⟩ | ⟨ej, rfl⟩
 ·rcases getElem?_snoc ht with ⟨hk, ht⟩ | ⟨ek, rfl⟩
  ·exact S.dj j k s t (hA hj hs) (hA hk ht) hne b hb hb'
  obtain ⟨r, hr, hb'⟩ := hb'
  obtain ⟨k', hk'⟩ := hL r hr
  exact S.dj j (A.length + k') s r (hA hj hs) hk' (by omega) b hb hb'
 rcases getElem?_snoc ht with ⟨hk, ht⟩ | ⟨ek, rfl⟩
 ·obtain ⟨r, hr, hb⟩ := hb
  obtain ⟨k', hk'⟩ := hL r hr
  exact S.dj (A.length + k') k r t hk' (hA hk ht) (by omega) b hb hb'
 omega

theorem Own.unpack (S : Own X w0 w (A ++ [Vk.pack L])) : Own X w0 w (A ++ L) := by
 have hp : (A ++ [Vk.pack L])[A.length]? = some (Vk.pack L) := by simp
 have hA : ∀ {k : Nat} {r : Rsc}, k < A.length → (A ++ L)[k]? = some r → (A ++ [Vk.pack L])[k]? = some r := by
  intro k r hk hr; rw [List.getElem?_append_left hk] at hr ⊢; exact hr
 have hL : ∀ {k : Nat} {r : Rsc}, ¬ k < A.length → (A ++ L)[k]? = some r → L[k - A.length]? = some r := by
  intro k r hk hr; rwa [List.getElem?_append_right (by omega)] at hr
 refine ⟨S.keep, fun k s hs => ?_, fun k s hs b hb => ?_, fun j k s t hs ht hne b hb hb' => ?_⟩
 ·by_cases hk : k < A.length
  ·exact S.ok k s (hA hk hs)
  exact (S.ok _ _ hp).1 s (List.mem_of_getElem? (hL hk hs))
 ·by_cases hk : k < A.length
  ·exact S.bd k s (hA hk hs) b hb
  exact S.bd _ _ hp b ⟨s, List.mem_of_getElem? (hL hk hs), hb⟩
 by_cases hj : j < A.length <;> by_cases hk : k < A.length
 ·exact S.dj j k s t (hA hj hs) (hA hk ht) hne b hb hb'
 ·exact S.dj j A.length s _ (hA hj hs) hp (by omega) b hb ⟨t, List.mem_of_getElem? (hL hk ht), hb'⟩
 ·exact S.dj A.length k _ t hp (hA hk ht) (by omega) b ⟨s, List.mem_of_getElem? (hL hj hs), hb⟩ hb'
 exact (S.ok _ _ hp).2 _ _ s t (hL hj hs) (hL hk ht) (by omega) b hb hb'

theorem Own.open (S : Own X w0 w [Vk.pack L]) : Own X w0 w L := S.unpack (A := [])
theorem Own.close (S : Own X w0 w L) : Own X w0 w [Vk.pack L] := S.pack (A := [])
theorem Own.nilR (w : World) : Own nilR.fp w w [Vk.nilR] := Own.lent trivial fun _ h => h.elim

end
end Go.Vk

namespace Go.Vk
def pre {α : Type} (l : List α) (z : α) (i : Nat) : List α := l.take i ++ List.replicate (l.length - i) z
section
variable {α : Type} {l : List α} {z a : α} {i : Nat}
end
end Go.Vk

namespace Go.Vk
open Go
section
variable {P : Program} {b : Frame} {cs : List Frame} {fin : Machine → Prop} {n : Nat} {all : Array Oper} {rest : List Oper} {k : List Item} {ρ : Env} {ds : List Deferred} {w : World} {X : Nat → Prop} {w0 : World} {L : List Rsc}
 {ty : TypeId} {pos : String} {af : Array Edge} {g : Option (Nat × Bool)} {T : TypeId} {x y : Operand} {d' : Option Nat} {α : Type} {E : Elt α} {v : Value} {b' o f i : Nat} {l : List α} {a a' : α}

theorem l_storev1 {u : Value} (S : Own X w0 w L) (j : Nat) (hj : L[j]? = some (vec E v l)) (hg : gOk all n ρ g = true) (hat : At E v i ⟨b', o, none⟩)
  (hx : ev n ρ x = .pointer (some ⟨b', o + f, none⟩)) (hy : ev n ρ y = u) (h1 : u.oneCell' = true) (hs : ∀ w, (sizeOf T).run P w = .ok 1 w) (ha : l[i]? = some a) (hf : f + 1 ≤ E.sz)
  (he : splice (E.enc a) f [u] = E.enc a') (h : ∀ w', Own X w0 w' (L.set j (vec E v (l.set i a'))) → Keep (vec E v l).fp w w' → RunL P b cs fin n all rest k (updO d' undef ρ) ds w') :
  RunL P b cs fin n all (⟨d', .store T x y, ty, pos, af, g⟩ :: rest) k ρ ds w := by
 have hcs : u.cells = #[u] := by cases u <;> first | rfl | simp [Value.oneCell'] at h1
 exact l_storev S j hj hg hat hx (vs := [u]) (by rw [hy, hcs]) hs (by simpa using h1) ha hf he h
theorem l_storevi {z : Int} (S : Own X w0 w L) (j : Nat) (hj : L[j]? = some (vec E v l)) (hg : gOk all n ρ g = true) (hat : At E v i ⟨b', o, none⟩)
  (hx : ev n ρ x = .pointer (some ⟨b', o + f, none⟩)) (hy : ev n ρ y = .int .i64 z) (hs : ∀ w, (sizeOf T).run P w = .ok 1 w) (ha : l[i]? = some a) (hf : f + 1 ≤ E.sz)
  (he : splice (E.enc a) f [.int .i64 z] = E.enc a') (h : ∀ w', Own X w0 w' (L.set j (vec E v (l.set i a'))) → Keep (vec E v l).fp w w' → RunL P b cs fin n all rest k (updO d' undef ρ) ds w') :
  RunL P b cs fin n all (⟨d', .store T x y, ty, pos, af, g⟩ :: rest) k ρ ds w := l_storev1 S j hj hg hat hx hy rfl hs ha hf he h
end
theorem ones_nil : ∀ v ∈ ([] : List Value), v.oneCell' = true := fun _ h => by cases h
theorem ones_cons {x : Value} {l : List Value} (h : x.oneCell' = true) (hl : ∀ v ∈ l, v.oneCell' = true) : ∀ v ∈ x :: l, v.oneCell' = true := fun v hv => by
 rcases List.mem_cons.1 hv with rfl | hv
 ·exact h
 exact hl v hv
end Go.Vk

namespace Go.Vk
open Go Go.Sort Go.Lib

section
variable {w : World} {b : Nat} {c : List Value} {T : TypeId} {l : List Int}

theorem le_grow (w : World) (os : Array Obj) : Le w (grow w os) := ⟨rfl, rfl, rfl, by simp, fun _ h _ => heap_grow_old w os h, Nat.le_refl _⟩
end

section
variable {P : Program} {f : FuncId} {T : TypeId} {w : World} {v : Value} {l : List Int}

end


end Go.Vk

namespace Go.Vk
open Go

section
variable {P : Program} {b : Frame} {cs : List Frame} {fin : Machine → Prop} {n : Nat} {all : Array Oper} {rest : List Oper} {k : List Item} {ρ : Env} {ds : List Deferred} {w : World} {X : Nat → Prop} {w0 : World} {L : List Rsc}
 {d : Nat} {d' : Option Nat} {ty : TypeId} {pos : String} {af : Array Edge} {g : Option (Nat × Bool)} {T : TypeId} {x y : Operand} {α : Type} {E : Elt α} {v v' : Value} {l : List α}

theorem x_cut {ev : Operand → Value} {lo hi : Option Operand} {p q : Int} {a : Option Addr} {len cap sz : Nat} {e : TypeId} (hx : ev x = .slice a len cap) (hu : ∀ w, (underlying T).run P w = .ok (.slice e) w) (hs : ∀ w, (sizeOf e).run P w = .ok sz w)
  (hlo : (lo.map ev).getD (.int .i64 0) = .int .i64 p) (hhi : (hi.map ev).getD (.int .i64 len) = .int .i64 q) (hb : 0 ≤ p ∧ p ≤ q ∧ q ≤ len) (hc : len ≤ cap) :
  Vk.X P ev (.slice T x lo hi none) ty w (.slice (if cap = p.toNat then a else a.map (·.add (p.toNat * sz))) (q.toNat - p.toNat) (cap - p.toNat)) w := by
 refine ⟨nofun, fun _ _ _ _ => ?_⟩
 have hsb : ∀ w, (Instr.sliceBounds true len cap (lo.map ev) (hi.map ev) none).run P w = .ok (p.toNat, q.toNat, cap) w := by
  intro w
  have hB : ∀ (z : Value) (m : Int) (y : Nat) (cd : BoundsCode) (w : World), z = .int .i64 m → 0 ≤ m ∧ m ≤ y → (Instr.sliceBound z y cd).run P w = .ok m.toNat w := by
   intro z m y cd w hz hm
   subst hz
   simp only [Instr.sliceBound, asIntOf, Sem.run_bind, Sem.run_pure, Result.andThen_ok]
   rw [if_pos hm]
   rfl
  unfold Instr.sliceBounds
  cases hi with
  | none =>
   have e2 : len = q.toNat := by simp at hhi; omega
   simp only [Option.map_none, Sem.run_bind, Sem.run_pure, Result.andThen_ok, Option.isSome_none, Bool.false_eq_true, if_false, e2]
   cases lo with
   | none => simp at hlo; subst hlo; rfl
   | some z =>
    simp only [Option.map_some, Option.getD_some] at hlo
    simp only [Option.map_some, Sem.run_bind, hB (ev z) p q.toNat .sliceB w hlo (by omega), Result.andThen_ok]
    rfl
  | some z =>
   simp only [Option.map_some, Option.getD_some] at hhi
   simp only [Option.map_some, Sem.run_bind, Sem.run_pure, Result.andThen_ok, Option.isSome_none, Bool.false_eq_true, if_false, if_true, hB (ev z) q cap .sliceAcap w hhi (by omega)]
   cases lo with
   | none => simp at hlo; subst hlo; rfl
   | some z =>
    simp only [Option.map_some, Option.getD_some] at hlo
    simp only [Option.map_some, Sem.run_bind, hB (ev z) p q.toNat .sliceB w hlo (by omega), Result.andThen_ok]
    rfl
 simp only [execOp, Instr.sliceAt, Option.map_none, hx, Sem.run_bind, hu, Result.andThen_ok, Instr.slice, hsb, hs, Sem.run_pure]

def Tail (E : Elt α) (v v' : Value) (p : Nat) : Prop :=
 (v = .slice none 0 0 ∧ v' = .slice none 0 0 ∧ p = 0) ∨
 ∃ b len cap, v = .slice (some ⟨b, 0, none⟩) len cap ∧ p ≤ len ∧ len ≤ cap ∧ v' = .slice (some ⟨b, if cap = p then 0 else p * E.sz, none⟩) (len - p) (cap - p)

theorem l_tail {z : Operand} {p : Int} (S : Own X w0 w L) (j : Nat) (hj : L[j]? = some (vec E v l)) (hg : gOk all n ρ g = true) (hx : ev n ρ x = v) (hz : ev n ρ z = .int .i64 p)
  (hu : ∀ w, (underlying T).run P w = .ok (.slice E.T) w) (hs : ∀ w, (sizeOf E.T).run P w = .ok E.sz w) (hq : 0 ≤ p ∧ p ≤ l.length)
  (h : ∀ v', Tail E v v' p.toNat → RunL P b cs fin n all rest k (upd ρ d v') ds w) :
  RunL P b cs fin n all (⟨some d, .slice T x (some z) none none, ty, pos, af, g⟩ :: rest) k ρ ds w := by
 rcases S.at j hj with ⟨hv, rfl⟩ | ⟨b', cap, c, hv, h1, h2, h3, h4, hb⟩
 ·have hx2 := hx.trans hv
  have hq0 : p = 0 := by simp at hq; omega
  subst hq0
  exact l_x hg (x_cut hx2 hu hs (p := 0) (q := 0) (by simp [hz]) rfl (by simp) (Nat.le_refl _)) (h _ (.inl ⟨hv, by simp, rfl⟩))
 have hx2 := hx.trans hv
 refine l_x hg (x_cut hx2 hu hs (p := p) (q := l.length) (by simp [hz]) rfl (by omega) h1) (h _ (.inr ⟨b', l.length, cap, hv, by omega, h1, ?_⟩))
 split
 ·rename_i e; simp [e]
 simp [addr_add]

theorem tail_rd {p : Nat} (ht : Tail E v v' p) (h : (vec E v l).ok w) : Rd E w v' (l.drop p) := by
 obtain ⟨a, cap0, hv, hc, hrow⟩ := vec_rd h
 rcases ht with ⟨hv1, rfl, rfl⟩ | ⟨b', len, cap, hv1, h1, h2, rfl⟩
 ·rw [hv1] at hv
  simp only [Value.slice.injEq] at hv
  obtain ⟨rfl, hl, _⟩ := hv
  have : l = [] := List.eq_nil_of_length_eq_zero hl.symm
  subst this
  exact ⟨none, 0, rfl, Nat.le_refl _, fun i c hi => by simp at hi⟩
 rw [hv1] at hv
 simp only [Value.slice.injEq] at hv
 obtain ⟨rfl, rfl, rfl⟩ := hv
 refine ⟨_, _, by rw [List.length_drop], by rw [List.length_drop]; omega, fun i c hi => ?_⟩
 rw [List.getElem?_drop] at hi
 obtain ⟨b2, o2, hb2, hr⟩ := hrow _ c hi
 simp only [Option.some.injEq, Addr.mk.injEq, and_true] at hb2
 obtain ⟨rfl, rfl⟩ := hb2
 have hil := (List.getElem?_eq_some_iff.1 hi).1
 have hne : cap ≠ p := by omega
 refine ⟨b', p * E.sz, by simp [hne], ?_⟩
 have e : p * E.sz + i * E.sz = 0 + (p + i) * E.sz := by rw [Nat.add_mul]; omega
 rw [e]; exact hr

end

theorem vec_nil_fp {α : Type} {E : Elt α} {l : List α} (b : Nat) : ¬ (vec E (.slice none 0 0) l).fp b := fun ⟨_, _, h⟩ => by cases h
theorem New.nilvec {α : Type} {E : Elt α} (w w' : World) : New w w' (vec E (.slice none 0 0) ([] : List α)) := ⟨.inl ⟨rfl, rfl⟩, fun b hb => absurd hb (vec_nil_fp b)⟩
theorem Own.nilvec {α : Type} {E : Elt α} {X : Nat → Prop} {w0 w : World} {L : List Rsc} (S : Own X w0 w L) : Own X w0 w (L ++ [vec E (.slice none 0 0) ([] : List α)]) := S.add (Le.refl w) (New.nilvec w w)

structure DelInv {α : Type} (p : α → Bool) (l l1 : List α) (i j : Nat) : Prop where
 len : l1.length = l.length
 le : i ≤ j
 lej : j ≤ l.length
 tk : l1.take i = (l.take j).filter fun x => !p x
 dr : l1.drop j = l.drop j

section
variable {α : Type} {p : α → Bool} {l l1 : List α} {i j : Nat} {a : α}
theorem DelInv.at (h : DelInv p l l1 i j) (hj : l[j]? = some a) : l1[j]? = some a := by
 have h1 : (l1.drop j)[0]? = (l.drop j)[0]? := by rw [h.dr]
 simpa [hj] using h1
theorem DelInv.start (hi : l[i]? = some a) (hp : p a = true) (h : ∀ x ∈ l.take i, p x = false) : DelInv p l l i (i + 1) := by
 obtain ⟨hl, rfl⟩ := List.getElem?_eq_some_iff.1 hi
 refine ⟨rfl, by omega, by omega, ?_, rfl⟩
 rw [List.take_succ_eq_append_getElem hl, List.filter_append]
 have e1 : (l.take i).filter (fun x => !p x) = l.take i := List.filter_eq_self.2 fun x hx => by simp [h x hx]
 simp [e1, hp]
theorem DelInv.drop (h : DelInv p l l1 i j) (hj : l[j]? = some a) (hp : p a = true) : DelInv p l l1 i (j + 1) := by
 obtain ⟨hl, rfl⟩ := List.getElem?_eq_some_iff.1 hj
 refine ⟨h.len, by have := h.le; omega, by omega, ?_, ?_⟩
 ·rw [h.tk, List.take_succ_eq_append_getElem hl, List.filter_append]; simp [hp]
 rw [← List.drop_drop, ← List.drop_drop, h.dr]
theorem DelInv.keep (h : DelInv p l l1 i j) (hj : l[j]? = some a) (hp : p a = false) : DelInv p l (l1.set i a) (i + 1) (j + 1) := by
 obtain ⟨hl, rfl⟩ := List.getElem?_eq_some_iff.1 hj
 have hle := h.le
 have hlen := h.len
 refine ⟨by simp [h.len], by omega, by omega, ?_, ?_⟩
 ·rw [List.take_succ_eq_append_getElem hl, List.filter_append, ← h.tk]
  have hi : i < (l1.set i l[j]).length := by simp; omega
  rw [List.take_succ_eq_append_getElem hi, List.take_set_of_le (Nat.le_refl i)]
  simp [hp]
 rw [List.drop_set_of_lt (by omega), ← List.drop_drop, ← List.drop_drop, h.dr]
theorem DelInv.done (h : DelInv p l l1 i l.length) : l1.take i = l.filter fun x => !p x := by rw [h.tk, List.take_length]
end

theorem Own.pick {X : Nat → Prop} {w0 w : World} {L L' : List Rsc} (S : Own X w0 w L) (is : List Nat) (hn : is.Nodup) (h : L'.map some = is.map (L[·]?)) : Own X w0 w L' := by
 refine S.perm is hn fun k r hr => ?_
 have h1 : (L'.map some)[k]? = some (some r) := by rw [List.getElem?_map, hr]; rfl
 rw [h, List.getElem?_map] at h1
 cases hi : is[k]? with
 | none => rw [hi] at h1; cases h1
 | some i => rw [hi] at h1; exact ⟨i, rfl, Option.some.inj h1⟩
theorem Own.join {X : Nat → Prop} {u w w' : World} {L M : List Rsc} (S : Own X u w L) (h : Own nob w w' M) : Own X u w' (L ++ M) := by
 have S' := S.step h.keep
 have cut : ∀ {k : Nat} {r : Rsc}, (L ++ M)[k]? = some r → (k < L.length ∧ L[k]? = some r) ∨ (L.length ≤ k ∧ M[k - L.length]? = some r) := by
  intro k r hr
  rcases Nat.lt_or_ge k L.length with hk | hk
  ·rw [List.getElem?_append_left hk] at hr; exact .inl ⟨hk, hr⟩
  rw [List.getElem?_append_right hk] at hr; exact .inr ⟨hk, hr⟩
 refine ⟨S'.keep, fun k r hr => ?_, fun k r hr b hb => ?_, fun j k r s hr hs hne b hb hb' => ?_⟩
 ·rcases cut hr with ⟨_, hr⟩ | ⟨_, hr⟩
  ·exact S'.ok k r hr
  exact h.ok _ r hr
 ·rcases cut hr with ⟨_, hr⟩ | ⟨_, hr⟩
  ·exact S'.bd k r hr b hb
  have := h.bd _ r hr b hb
  exact ⟨this.1, .inl (Nat.le_trans S.keep.size (this.2.resolve_right id))⟩
 rcases cut hr with ⟨e1, hr⟩ | ⟨e1, hr⟩ <;> rcases cut hs with ⟨e2, hs⟩ | ⟨e2, hs⟩
 ·exact S'.dj j k r s hr hs hne b hb hb'
 ·have h1 := (S.bd j r hr b hb).1
  have h2 := (h.bd _ s hs b hb').2.resolve_right id
  omega
 ·have h1 := (S.bd k s hs b hb').1
  have h2 := (h.bd _ r hr b hb).2.resolve_right id
  omega
 exact h.dj _ _ r s hr hs (by omega) b hb hb'
end Go.Vk

namespace Go.Vk
open Go

abbrev Hd := Option Addr × Nat × Nat
def hv (h : Hd) : Value := .slice h.1 h.2.1 h.2.2
def hdE (T : TypeId) : Elt Hd where
 T := T
 sz := 1
 enc h := [hv h]
 zero := [.slice none 0 0]
 len _ := rfl
 zlen := rfl
 one a x h := by simp at h; subst h; rfl
 pos := by decide

def nest {α : Type} (E : Elt α) (hs : List Hd) (ls : List (List α)) : List Rsc := List.zipWith (fun h l => vec E (hv h) l) hs ls

section
variable {α : Type} {E : Elt α} {hs : List Hd} {ls : List (List α)} {h h' : Hd} {l l' : List α} {j : Nat}
theorem nest_nil (E : Elt α) (n : Nat) : ∀ r ∈ nest E (List.replicate n ((none, 0, 0) : Hd)) (List.replicate n ([] : List α)), r = vec E (.slice none 0 0) [] := by
 intro r hr
 simp only [nest, List.zipWith_replicate, List.mem_replicate] at hr
 exact hr.2

variable {X : Nat → Prop} {w0 w : World} {L : List Rsc}
theorem Own.nest (S : Own X w0 w L) (E : Elt α) (n : Nat) : Own X w0 w (L ++ [Vk.pack (Vk.nest E (List.replicate n (none, 0, 0)) (List.replicate n []))]) := by
 refine S.add (Le.refl w) ⟨⟨fun r hr => ?_, fun j k r s hr _ _ b hb => ?_⟩, fun b hb => ?_⟩
 ·rw [nest_nil E n r hr]; exact .inl ⟨rfl, rfl⟩
 ·rw [nest_nil E n r (List.mem_of_getElem? hr)] at hb; exact absurd hb (vec_nil_fp b)
 obtain ⟨r, hr, hb⟩ := hb
 rw [nest_nil E n r hr] at hb
 exact absurd hb (vec_nil_fp b)

end
end Go.Vk

namespace Go.Vk
open Go
def Sizes (P : Program) : List Field → List Nat → Prop
 | [], [] => True
 | f :: fs, s :: ss => (∀ w, (sizeOf f.type).run P w = .ok s w) ∧ Sizes P fs ss
 | _, _ => False
def placesOf : List Field → List Nat → List (Nat × Nat)
 | f :: fs, s :: ss => (f.offset, s) :: placesOf fs ss
 | _, _ => []
theorem run_places {P : Program} : ∀ (fs : List Field) (ss : List Nat), Sizes P fs ss → ∀ w, (fs.mapM (m := Sem) fun f => do pure (f.offset, ← sizeOf f.type)).run P w = .ok (placesOf fs ss) w := by
 intro fs
 induction fs with
 | nil => intro ss h w; cases ss with
  | nil => simp [placesOf]
  | cons => cases h
 | cons f fs ih =>
  intro ss h w
  cases ss with
  | nil => cases h
  | cons s ss =>
   obtain ⟨h1, h2⟩ := h
   simp only [List.mapM_cons, Sem.run_bind, h1, Result.andThen_ok, Sem.run_pure, ih ss h2, placesOf]

theorem x_buildS {P : Program} {E : Operand → Value} {T ty : TypeId} {w : World} {parts : List (Nat × Operand)} {z : Value} {zc out : List Value} {fs : List Field} {ss : List Nat} (hz : ∀ w, (zeroValue T).run P w = .ok z w) (hzc : z.cells = zc.toArray)
  (hu : ∀ w, (underlying T).run P w = .ok (.struct fs.toArray) w) (hs : Sizes P fs ss)
  (hf : Instr.fill ((placesOf fs ss).toArray[·]?) zc.toArray (parts.map fun p => (p.1, E p.2)) = some out.toArray) : X P E (.build T parts.toArray) ty w (.agg out.toArray) w :=
 x_build hz hzc hu (fun w => by
  rw [List.mapM_toArray]
  show ((fs.mapM (m := Sem) fun f => do pure (f.offset, ← sizeOf f.type)) >>= fun l => pure l.toArray).run P w = _
  rw [Sem.run_bind, run_places fs ss hs w, Result.andThen_ok, Sem.run_pure]) hf
end Go.Vk

namespace Go.Vk
open Go

structure Arc where
 src : Int
 dst : Int
 lo : Int
 hi : Int
 loBy : Int
 hiBy : Int
deriving DecidableEq

def Arc.enc (a : Arc) : List Value := [.int .i64 a.src, .int .i64 a.dst, .int .i64 a.lo, .int .i64 a.hi, .int .i64 a.loBy, .int .i64 a.hiBy]

def arcE (T : TypeId) : Elt Arc where
 T := T
 sz := 6
 enc := Arc.enc
 zero := (⟨0, 0, 0, 0, 0, 0⟩ : Arc).enc
 len _ := rfl
 zlen := rfl
 one a x h := by simp [Arc.enc] at h; rcases h with h | h | h | h | h | h <;> subst h <;> rfl
 pos := by decide

structure Stp where
 arc : Int
 back : Bool
 src : Int
 dst : Int
 cost : Int
deriving DecidableEq

def Stp.enc (s : Stp) : List Value := [.int .i64 s.arc, .bool s.back, .int .i64 s.src, .int .i64 s.dst, .int .i64 s.cost]

def stpE (T : TypeId) : Elt Stp where
 T := T
 sz := 5
 enc := Stp.enc
 zero := (⟨0, false, 0, 0, 0⟩ : Stp).enc
 len _ := rfl
 zlen := rfl
 one a x h := by simp [Stp.enc] at h; rcases h with h | h | h | h | h <;> subst h <;> rfl
 pos := by decide

def carC (N : Int) (va vx vw : Value) (m p : Nat → Int) : List Value := [.int .i64 N, va, vx, vw] ++ (tab 1000 m ++ (tab 1000 p ++ []))
section
variable {N : Int} {va vx vw : Value} {m p : Nat → Int} {i o : Nat} {x : Int}
end

namespace Flow

def okArc (N : Int) (a : Arc) : Bool :=
 decide (0 ≤ a.src ∧ a.src < N ∧ 0 ≤ a.dst ∧ a.dst < N ∧ 0 ≤ a.lo ∧ a.lo ≤ 1000000 ∧ 0 ≤ a.hi ∧ a.hi ≤ 1000000 ∧ 0 ≤ a.loBy ∧ a.loBy ≤ 1000000 ∧ 0 ≤ a.hiBy ∧ a.hiBy ≤ 1000000)

theorem okArc_iff {N : Int} {a : Arc} : okArc N a = true ↔ (0 ≤ a.src ∧ a.src < N ∧ 0 ≤ a.dst ∧ a.dst < N ∧ 0 ≤ a.lo ∧ a.lo ≤ 1000000 ∧ 0 ≤ a.hi ∧ a.hi ≤ 1000000 ∧ 0 ≤ a.loBy ∧ a.loBy ≤ 1000000 ∧ 0 ≤ a.hiBy ∧ a.hiBy ≤ 1000000) := by
 simp [okArc]

def chk (N : Int) (arcs : List Arc) : Int :=
 if 1000 < N ∨ 4000 < arcs.length then 2 else if N < 1 ∨ arcs.any (fun a => !okArc N a) = true then 1 else 0

structure Valid (N : Int) (arcs : List Arc) : Prop where
 pos : 1 ≤ N
 max : N ≤ 1000
 len : arcs.length ≤ 4000
 ok : ∀ a ∈ arcs, okArc N a = true

def row (l : List Int) (n a b : Int) : Bool := decide ((l.length : Int) = n) && !l.any fun x => !decide (a ≤ x ∧ x ≤ b)

def idx {α : Type} (p : α → Bool) (l : List α) : Int := match l.findIdx? p with | some i => (i : Int) | none => -1

theorem idx_ge {α : Type} (p : α → Bool) (l : List α) : (0 ≤ idx p l) ↔ l.any p = true := by
 unfold idx
 cases h : l.findIdx? p with
 | none => simp [List.findIdx?_eq_none_iff] at h; simp; exact h
 | some i =>
  have := List.findIdx?_eq_some_iff_getElem.1 h
  obtain ⟨h1, h2, _⟩ := this
  simp only [Int.natCast_nonneg, true_iff, List.any_eq_true]
  exact ⟨_, List.getElem_mem h1, h2⟩

theorem idx_none {α : Type} {p : α → Bool} {l : List α} (h : ∀ a ∈ l, p a = false) : idx p l = -1 := by
 unfold idx
 rw [List.findIdx?_eq_none_iff.2 h]

theorem idx_at {α : Type} {p : α → Bool} {l : List α} {i : Nat} {a : α} (ha : l[i]? = some a) (hp : p a = true) (h : ∀ x ∈ l.take i, p x = false) : idx p l = i := by
 unfold idx
 obtain ⟨hi, he⟩ := List.getElem?_eq_some_iff.1 ha
 have : l.findIdx? p = some i := by
  rw [List.findIdx?_eq_some_iff_getElem]
  refine ⟨hi, by rw [he]; exact hp, fun j hj => ?_⟩
  have : l[j] ∈ l.take i := by
   rw [List.mem_take_iff_getElem]
   exact ⟨j, by omega, rfl⟩
  simp [h _ this]
 rw [this]

def ex : List Arc → List Int → Nat → Int
 | a :: as, y :: ys, v => (if a.dst = v then y else 0) - (if a.src = v then y else 0) + ex as ys v
 | _, _, _ => 0

def within : List Arc → List Int → Bool
 | a :: as, y :: ys => decide (a.lo ≤ y ∧ y ≤ a.hi) && within as ys
 | _, _ => true

def kept (n : Nat) (as : List Arc) (ys : List Int) : Bool := within as ys && (List.range n).all fun v => ex as ys v == 0


structure Amts (arcs : List Arc) (x : List Int) : Prop where
 len : x.length = arcs.length
 bd : ∀ y ∈ x, 0 ≤ y ∧ y ≤ 1000000

theorem Valid.at {N : Int} {arcs : List Arc} (h : Valid N arcs) {i : Nat} {a : Arc} (ha : arcs[i]? = some a) :
  0 ≤ a.src ∧ a.src < N ∧ 0 ≤ a.dst ∧ a.dst < N ∧ 0 ≤ a.lo ∧ a.lo ≤ 1000000 ∧ 0 ≤ a.hi ∧ a.hi ≤ 1000000 ∧ 0 ≤ a.loBy ∧ a.loBy ≤ 1000000 ∧ 0 ≤ a.hiBy ∧ a.hiBy ≤ 1000000 :=
 okArc_iff.1 (h.ok a (List.mem_of_getElem? ha))
theorem Amts.at {arcs : List Arc} {x : List Int} (h : Amts arcs x) {i : Nat} {y : Int} (hy : x[i]? = some y) : 0 ≤ y ∧ y ≤ 1000000 := h.bd y (List.mem_of_getElem? hy)


def nth (l : List Int) (i : Nat) : Int := l.getD i 0
theorem nth_get {l : List Int} {i : Nat} (h : i < l.length) : l[i]? = some (nth l i) := by
 simp [nth, List.getD_eq_getElem?_getD, h]
def dot : List Int → List Int → Int
 | y :: ys, z :: zs => y * z + dot ys zs
 | _, _ => 0
structure Wts (arcs : List Arc) (x : List Int) : Prop where
 len : x.length = arcs.length
 bd : ∀ y ∈ x, -1000 ≤ y ∧ y ≤ 1000
structure Pts (N : Int) (x : List Int) : Prop where
 len : (x.length : Int) = N
 bd : ∀ y ∈ x, -10000000 ≤ y ∧ y ≤ 10000000
theorem Wts.at {arcs : List Arc} {x : List Int} (h : Wts arcs x) {i : Nat} {y : Int} (hy : x[i]? = some y) : -1000 ≤ y ∧ y ≤ 1000 := h.bd y (List.mem_of_getElem? hy)
theorem Pts.at {N : Int} {x : List Int} (h : Pts N x) (i : Nat) : -10000000 ≤ nth x i ∧ nth x i ≤ 10000000 := by
 by_cases hi : i < x.length
 ·exact h.bd _ (List.mem_of_getElem? (nth_get hi))
 simp [nth, List.getD_eq_getElem?_getD, List.getElem?_eq_none (Nat.le_of_not_lt hi)]

def rst (p : List Int) (a : Arc) (y : Int) : Int := y + nth p a.src.toNat - nth p a.dst.toNat
def part (p : List Int) (a : Arc) (y : Int) : Int := if 0 < rst p a y then rst p a y * a.hi else if rst p a y < 0 then rst p a y * a.lo else 0
def bnd (p : List Int) : List Arc → List Int → Int
 | a :: as, y :: ys => part p a y + bnd p as ys
 | _, _ => 0
def told1 (p : List Int) (a : Arc) (y : Int) : List (Arc × Bool) := if 0 < rst p a y then [(a, true)] else if rst p a y < 0 then [(a, false)] else []
def told (p : List Int) : List Arc → List Int → List (Arc × Bool)
 | a :: as, y :: ys => told1 p a y ++ told p as ys
 | _, _ => []

def rec1 : Arc × Bool → List Int
 | (a, true) => [a.hiBy]
 | (a, false) => if 0 < a.lo then [a.loBy] else []
def recs (t : List (Arc × Bool)) : List Int := t.flatMap rec1
def lst (l : List Int) : List Int := Lib.compact ((l.filter fun x => !decide (x = 0)).mergeSort fun x y => decide (x ≤ y))

def mk (N : Int) (l : List Int) : List Bool := (List.range N.toNat).map fun (v : Nat) => decide ((v : Int) ∈ l)
def cut1 (ns : List Int) (a : Arc) : List (Arc × Bool) := if decide (a.src ∈ ns) ≠ decide (a.dst ∈ ns) then [(a, decide (a.src ∈ ns))] else []
def cutl (ns : List Int) (as : List Arc) : List (Arc × Bool) := as.flatMap (cut1 ns)
def csum1 : Arc × Bool → Int
 | (a, true) => a.lo
 | (a, false) => -a.hi
def csum (t : List (Arc × Bool)) : Int := (t.map csum1).foldl (· + ·) 0
def asc (N : Int) : Int → List Int → Bool
 | _, [] => true
 | last, v :: vs => decide (last + 1 ≤ v ∧ v ≤ N - 1) && asc N v vs
def bad (arcs : List Arc) (A : Int) : Bool := decide (0 ≤ A ∧ A ≤ (arcs.length : Int) - 1) && (match arcs[A.toNat]? with | some a => decide (a.hi < a.lo) | none => false)
def hind (N : Int) (arcs : List Arc) (A : Int) (ns : List Int) : Bool :=
 if A ≠ -1 then decide ((ns.length : Int) = 0) && bad arcs A else asc N (-1) ns && decide (0 < csum (cutl ns arcs))

def orecs (t : List (Arc × Bool)) : List Int := recs (t.map fun x => (x.1, !x.2))
def orec (arcs : List Arc) (A : Int) (ns : List Int) : List Int :=
 if 0 ≤ A then (match arcs[A.toNat]? with | some a => lst [a.loBy, a.hiBy] | none => []) else lst (orecs (cutl ns arcs))


def cst (p : Nat → Int) (a : Arc) (q : Int) : Int := p a.src.toNat - p a.dst.toNat - q
def fwd (p : Nat → Int) (i : Nat) (a : Arc) (q : Int) : Stp := ⟨i, false, a.src, a.dst, cst p a q⟩
def bwd (p : Nat → Int) (i : Nat) (a : Arc) (q : Int) : Stp := ⟨i, true, a.dst, a.src, -cst p a q⟩
def stp1 (p : Nat → Int) (i : Nat) (a : Arc) (y q : Int) : List Stp := (if y < a.hi then [fwd p i a q] else []) ++ (if a.lo < y then [bwd p i a q] else [])
def stps (p : Nat → Int) : Nat → List Arc → List Int → List Int → List Stp
 | i, a :: as, y :: ys, q :: qs => stp1 p i a y q ++ stps p (i + 1) as ys qs
 | _, _, _, _ => []

def byl (N : Int) (t : List Stp) : List (List Stp) := (List.range N.toNat).map fun (v : Nat) => t.filter fun s => decide (s.src = (v : Int))
def askd (N : Int) (arcs : List Arc) (p : Bool) : Int := if chk N arcs ≠ 0 then chk N arcs else if p = true then 0 else 1
end Flow
end Go.Vk

namespace Go.Vk.Deed
open Go Go.Vk Go.Vk.Flow

structure D where
 id : Int
 day : Int
 known : Int
 kind : Int
 frm : Int
 to : Int
 parts : Int
 stop : Int
 of : Int
 heirs : List Int
 shares : List Int
deriving DecidableEq

def rng (n a b : Int) : Bool := decide (a ≤ n ∧ n ≤ b)
def own (n : Int) : Bool := rng n 1 40
def fresh (seen : List Int) : List Int → Bool
 | [] => true
 | y :: l => !seen.contains y && fresh (y :: seen) l
def heirsB (x : D) : Bool :=
 decide (1 ≤ x.heirs.length ∧ x.heirs.length ≤ 10) && decide (x.shares.length = x.heirs.length) && own x.frm && x.heirs.all own && x.shares.all (fun n => rng n 1 1000) && fresh [x.frm] x.heirs
def noLists (x : D) : Bool := x.heirs.isEmpty && x.shares.isEmpty
def kindB (x : D) : Bool :=
 if x.kind = 1 then own x.to && rng x.parts 1 1000000000 && decide (x.frm = 0 ∧ x.stop = 0 ∧ x.of = 0) && noLists x
 else if x.kind = 2 ∨ x.kind = 5 then own x.frm && own x.to && decide (x.frm ≠ x.to) && rng x.parts 1 1000000000 && decide (x.stop = 0 ∧ x.of = 0) && noLists x
 else if x.kind = 3 then heirsB x && decide (x.to = 0 ∧ x.parts = 0 ∧ x.stop = 0 ∧ x.of = 0)
 else if x.kind = 4 then own x.frm && own x.to && decide (x.frm ≠ x.to) && rng x.parts 1 1000000000 && rng x.stop x.day 100000 && decide (x.of = 0) && noLists x
 else if x.kind = 6 ∨ x.kind = 7 then rng x.of 1 (x.id - 1) && decide (x.frm = 0 ∧ x.to = 0 ∧ x.parts = 0 ∧ x.stop = 0) && noLists x
 else if x.kind = 8 then rng x.of 1 (x.id - 1) && decide (x.day = 0) && decide (x.frm = 0 ∧ x.to = 0 ∧ x.parts = 0 ∧ x.stop = 0) && noLists x
 else false
def formed (x : D) : Bool := rng x.id 1 400 && rng x.known 0 100000 && rng x.day 0 100000 && kindB x

def sumI (l : List Int) : Int := l.foldl (· + ·) 0
def enters (l : List D) : Int := sumI (l.map fun x => if x.kind = 1 then x.parts else 0)
def named (l : List D) (x : D) : Bool :=
 match l[(x.of - 1).toNat]? with
 | some y => if x.kind = 8 then decide (y.kind = 8) || l.any (fun z => decide (z.kind = 8 ∧ z.of = x.of)) else decide (y.kind ≠ 5)
 | none => false
def lateB (l : List D) (x : D) : Bool := match l.getLast? with | some y => decide (x.known < y.known) | none => false
def follows (l : List D) (x : D) : Int :=
 if 400 ≤ l.length then 2
 else if formed x = false ∨ x.id ≠ l.length + 1 then 1
 else if lateB l x = true then 7
 else if 0 < x.of then (if named l x then 8 else 0)
 else if x.kind = 1 then (if 1000000000 < enters l + x.parts then 2 else 0)
 else 0
def chkAt (l : List D) (i : Nat) : Int := match l[i]? with
 | some x => follows (l.take i) x
 | none => 0
def chkD (l : List D) : Int × Int := match (List.range l.length).find? fun i => decide (chkAt l i ≠ 0) with
 | some i => (i, chkAt l i)
 | none => (0, 0)
def rightD (l : List D) : Bool := decide ((chkD l).2 = 0)

def voided (l : List D) (known id : Int) : Bool := l.any fun y => decide (y.kind = 8 ∧ y.known ≤ known ∧ y.of = id)
def counts (l : List D) (known : Int) (x : D) : Bool := decide (x.kind ≠ 8 ∧ x.known ≤ known) && !voided l known x.id
def ins (x : D) : List D → List D
 | [] => [x]
 | y :: l => if x.day < y.day then x :: y :: l else y :: ins x l
def order (l : List D) : List D := l.foldl (fun acc x => ins x acc) []
def counting (l : List D) (known : Int) : List D := order (l.filter (counts l known))

structure Ls where
 deed : Int
 frm : Int
 to : Int
 parts : Int
 stop : Int
 day : Int
deriving DecidableEq
structure Lz where
 deed : Int
 frm : Int
 to : Int
 parts : Int
 stop : Int
deriving DecidableEq
def Ls.z (x : Ls) : Lz := ⟨x.deed, x.frm, x.to, x.parts, x.stop⟩
structure Pl where
 deed : Int
 frm : Int
 to : Int
 parts : Int
deriving DecidableEq
structure St where
 src : Int → Int → Int
 holds : Int → Int
 leases : List Ls
 pledges : List Pl
 idle : List Int
def St.nil : St := ⟨fun _ _ => 0, fun _ => 0, [], [], []⟩
def ids : List Int := (List.range 400).map fun (i : Nat) => ((i : Int) + 1)
def idsS (s : St) (o : Int) : List Int := ids.filter fun i => decide (0 < s.src o i)
def addS (s : St) (o id n : Int) : St :=
 { s with src := fun o' id' => if o' = o ∧ id' = id then s.src o' id' + n else s.src o' id', holds := fun o' => if o' = o then s.holds o' + n else s.holds o' }
def moveL (a b : Int) : List Int → Int → St → St
 | [], _, s => s
 | id :: l, k, s => moveL a b l (k - min k (s.src a id)) (addS (addS s a id (-min k (s.src a id))) b id (min k (s.src a id)))
def moveS (s : St) (a b k : Int) : St := moveL a b (idsS s a) k s
def sumF {α : Type} (p : α → Bool) (f : α → Int) (l : List α) : Int := sumI ((l.filter p).map f)
def outS (s : St) (o day : Int) : Int := sumF (fun x => decide (x.frm = o ∧ x.day ≤ day ∧ day ≤ x.stop)) (·.parts) s.leases
def inS (s : St) (o day : Int) : Int := sumF (fun x => decide (x.to = o ∧ x.day ≤ day ∧ day ≤ x.stop)) (·.parts) s.leases
def pledged (s : St) (o : Int) : Int := sumF (fun x => decide (x.frm = o)) (·.parts) s.pledges
def free (s : St) (o day : Int) : Int := s.holds o - outS s o day - pledged s o
def cutsAbove (cuts : List Int) (i : Nat) : Nat := ((List.range cuts.length).filter fun j => decide (cuts.getD j 0 > cuts.getD i 0 ∨ (cuts.getD j 0 = cuts.getD i 0 ∧ j < i))).length
def wholeS (total : Int) (shares : List Int) : List Int :=
 let sum := shares.foldl (· + ·) 0
 let base := shares.map fun p => total * p / sum
 let cuts := shares.map fun p => total * p % sum
 let left := total - base.foldl (· + ·) 0
 (List.range shares.length).map fun i => base.getD i 0 + if (cutsAbove cuts i : Int) < left then 1 else 0
def movesS (a : Int) : List Int → List Int → St → St
 | h :: hs, k :: ks, s => movesS a hs ks (moveS s a h k)
 | _, _, s => s
def leaseS (s : St) (x : D) : St := { s with leases := s.leases ++ [⟨x.id, x.frm, x.to, x.parts, x.stop, x.day⟩] }
def pledgeS (s : St) (x : D) : St := { s with pledges := s.pledges ++ [⟨x.id, x.frm, x.to, x.parts⟩] }
def plOf (s : St) (id : Int) : Option Pl := s.pledges.find? fun p => decide (p.deed = id)
def redeemS (s : St) (id : Int) : St := { s with pledges := s.pledges.filter fun q => decide (q.deed ≠ id) }
def do1 (s : St) (x : D) : Option St :=
 if x.kind = 1 then some (addS s x.to x.id x.parts)
 else if x.kind = 2 then (if x.parts ≤ free s x.frm x.day then some (moveS s x.frm x.to x.parts) else none)
 else if x.kind = 3 then (if 0 < free s x.frm x.day then some (movesS x.frm x.heirs (wholeS (free s x.frm x.day) x.shares) s) else none)
 else if x.kind = 4 then (if x.parts ≤ free s x.frm x.day then some (leaseS s x) else none)
 else if x.kind = 5 then (if x.parts ≤ free s x.frm x.day then some (pledgeS s x) else none)
 else match plOf s x.of with
  | none => none
  | some p => if x.kind = 7 then some (moveS (redeemS s x.of) p.frm p.to p.parts) else some (redeemS s x.of)
def idleS (s : St) (id : Int) : St := { s with idle := s.idle ++ [id] }
def try1 (s : St) (x : D) : St := match do1 s x with
 | some s' => s'
 | none => idleS s x.id
def doneD (l : List D) (day : Int) : St := (l.filter fun x => decide (x.day ≤ day)).foldl try1 St.nil
def onD (l : List D) (known day : Int) : St := if rightD l = true then doneD (counting l known) day else St.nil

structure Acc where
 owner : Int
 holds : Int
 pledged : Int
 out : Int
 inn : Int
deriving DecidableEq
def acc (s : St) (o day : Int) : Acc := ⟨o, s.holds o, pledged s o, outS s o day, inS s o day⟩
def owners : List Int := (List.range 40).map fun (i : Nat) => ((i : Int) + 1)
def accs (s : St) (day : Int) : List Acc := (owners.map fun o => acc s o day).filter fun a => decide (a ≠ ⟨a.owner, 0, 0, 0, 0⟩)
def accOf (l : List D) (known day o : Int) : Acc := if own o = true ∧ rightD l = true then acc (onD l known day) o day else ⟨0, 0, 0, 0, 0⟩
def usesD (l : List D) (known day o : Int) : Int := (accOf l known day o).holds - (accOf l known day o).out + (accOf l known day o).inn
def freeD (l : List D) (known day o : Int) : Int := (accOf l known day o).holds - (accOf l known day o).out - (accOf l known day o).pledged
def totalD (l : List D) (known day : Int) : Int := sumI (owners.map (onD l known day).holds)
def asc (l : List Int) : List Int := l.mergeSort fun x y => decide (x ≤ y)
def idleD (l : List D) (known : Int) : List Int := asc (onD l known 100000).idle
def lateD (l : List D) : List Int := if rightD l = true then (l.filter fun x => decide (x.kind ≠ 8 ∧ x.day < x.known)).map (·.id) else []
def leasesD (l : List D) (known day : Int) : List Lz := (((onD l known day).leases.filter fun x => decide (x.day ≤ day ∧ day ≤ x.stop)).map (·.z)).mergeSort fun x y => decide (x.deed ≤ y.deed)
def pledgesD (l : List D) (known day : Int) : List Pl := (onD l known day).pledges.mergeSort fun x y => decide (x.deed ≤ y.deed)
def appendD (l : List D) (x : D) : Int × List D := if (chkD l).2 ≠ 0 then ((chkD l).2, []) else if follows l x ≠ 0 then (follows l x, []) else (0, l ++ [x])
def possD (l : List D) (known : Int) (x : D) : Int := if (appendD l x).1 ≠ 0 then (appendD l x).1 else if x.id ∈ idleD (appendD l x).2 known then 20 else 0
def nm1 (y : D) : List Int := y.heirs ++ (if 0 < y.frm then [y.frm] else []) ++ (if 0 < y.to then [y.to] else [])
def ofD (l : List D) (x : D) : D := if x.kind = 6 ∨ x.kind = 7 then (l[(x.of - 1).toNat]?).getD x else x
def nm (l : List D) (x : D) : List Int := nm1 (ofD l x)
def touchedD (l : List D) (a b day : Int) : List Int := owners.filter fun o => decide (usesD l a day o ≠ usesD l b day o)
def sourceD (l : List D) (known day o : Int) : List Int × List Int := (idsS (onD l known day) o, (idsS (onD l known day) o).map ((onD l known day).src o))
def movesD (l : List D) (known day o : Int) : List Int := if rightD l = true then asc (((counting l known).filter fun x => decide (x.day ≤ day) && (nm l x).contains o && !(idleD l known).contains x.id).map (·.id)) else []
def onlyD (l : List D) (known day : Int) (is : List Int) : List Acc := if rightD l = true then accs (doneD ((counting l known).filter fun x => is.contains x.id) day) day else []
def meetB (a b : List Int) : Bool := a.any fun n => b.contains n
def restsB (l c : List D) (i k : Nat) : Bool := match c[i]?, c[k]? with
 | some x, some y => (decide (x.kind = 6 ∨ x.kind = 7) && decide (y.id = x.of)) || (decide (k < i) && meetB (nm l x) (nm l y))
 | _, _ => false
def startB (l c : List D) (day o : Int) (i : Nat) : Bool := match c[i]? with
 | some x => decide (x.day ≤ day) && (nm l x).contains o
 | none => false
def growB (l c : List D) (T : List Nat) : List Nat := (List.range c.length).filter fun k => T.contains k || T.any fun i => restsB l c i k
def linB (l c : List D) : Nat → List Nat → List Nat
 | 0, T => T
 | n + 1, T => linB l c n (growB l c T)
def lineageD (l : List D) (known day o : Int) : List Int :=
 if rightD l = true ∧ own o = true then asc ((linB l (counting l known) (counting l known).length ((List.range (counting l known).length).filter fun i => startB l (counting l known) day o i)).map fun i => (((counting l known)[i]?).map (·.id)).getD 0) else []

def reg : List D := [⟨1, 0, 0, 1, 0, 1, 5040, 0, 0, [], []⟩, ⟨2, 0, 0, 1, 0, 2, 10080, 0, 0, [], []⟩, ⟨3, 5, 5, 2, 2, 1, 2520, 0, 0, [], []⟩, ⟨4, 6, 9, 4, 1, 3, 5040, 20, 0, [], []⟩, ⟨5, 7, 9, 5, 2, 4, 7000, 0, 0, [], []⟩, ⟨6, 8, 30, 2, 2, 3, 1000, 0, 0, [], []⟩,
 ⟨7, 0, 40, 8, 0, 0, 0, 0, 3, [], []⟩, ⟨8, 25, 50, 7, 0, 0, 0, 0, 5, [], []⟩]
end Go.Vk.Deed

namespace Go.Vk
open Go

section
variable {P : Program} {b : Frame} {cs : List Frame} {fin : Machine → Prop} {n : Nat} {k : List Item} {ρ : Env} {ds : List Deferred} {w w' : World} {ops : Array Oper} {m : Nat} {G : World → World → Prop}

def AnyE (P : Program) (n : Nat) (ops : Array Oper) (m : Nat) (G : World → World → Prop) (K : Env → World → Prop) : Nat → Array Bool → Env → World → Prop
 | 0, listed, ρ, w => ((∀ i, i < m → listed.getD i true = true) → K ρ w) ∧ ∀ (i : Nat), i < m → rdy ops listed i = false
 | f + 1, listed, ρ, w => ((∀ i, i < m → listed.getD i true = true) → K ρ w) ∧ ∀ (i : Nat) (o : Oper), i < m → ops[i]? = some o → rdy ops listed i = true →
   Sp P ops n ρ o w fun v w2 => G w w2 ∧ AnyE P n ops m G K f (listed.setIfInBounds i true) (updO o.dst v ρ) w2

def Exact (P : Program) (ops : Array Oper) (n : Nat) (G : World → World → Prop) (ρ : Env) (o : Oper) (w : World) (v : Value) : Prop := ∀ w1, G w w1 → Sp P ops n ρ o w1 fun u w2 => u = v ∧ w2 = w1

theorem AnyE.first {K : Env → World → Prop} {i : Nat} {oi : Oper} {v : Value} (hr0 : ∀ w, G w w) (htr : ∀ {u v w}, G u v → G v w → G u w) (hok : DrawOk ops m) (hi : ops[i]? = some oi) (him : i < m) :
  ∀ (f : Nat) (listed : Array Bool) (ρ : Env) (w : World), rdy ops listed i = true → Exact P ops n G ρ oi w v →
   AnyE P n ops m G K f (listed.setIfInBounds i true) (updO oi.dst v ρ) w → AnyE P n ops m G K (f + 1) listed ρ w := by
 intro f
 induction f with
 | zero =>
  intro listed ρ w hr hy H
  refine ⟨fun hl => ?_, fun j oj hjm hj hrj => ?_⟩
  ·have := (rdy_spec hr).1; rw [hl i him] at this; cases this
  by_cases e : j = i
  ·subst e
   have : oj = oi := Option.some.inj (hj.symm.trans hi)
   subst this
   exact (hy w (hr0 w)).mono fun u w2 ⟨hu, h2⟩ => by subst hu; subst h2; exact ⟨hr0 _, H⟩
  have := H.2 j hjm
  rw [rdy_other e hrj] at this
  cases this
 | succ f ih =>
  intro listed ρ w hr hy H
  refine ⟨fun hl => ?_, fun j oj hjm hj hrj => ?_⟩
  ·have := (rdy_spec hr).1; rw [hl i him] at this; cases this
  by_cases e : j = i
  ·subst e
   have : oj = oi := Option.some.inj (hj.symm.trans hi)
   subst this
   exact (hy w (hr0 w)).mono fun u w2 ⟨hu, h2⟩ => by subst hu; subst h2; exact ⟨hr0 _, H⟩
  have h2 := H.2 j oj hjm hj (rdy_other e hrj)
  have hap : apartB ops oi oj = true := by
   rcases hok.apart i j oi oj him hjm (Ne.symm e) hi hj with h | h | h
   ·obtain ⟨_, o', ho', hw'⟩ := rdy_spec hrj
    have : o' = oj := Option.some.inj (ho'.symm.trans hj)
    subst this
    have := hw' i h
    rw [getD_both (rdy_spec hr).1] at this; cases this
   ·obtain ⟨_, o', ho', hw'⟩ := rdy_spec hr
    have : o' = oi := Option.some.inj (ho'.symm.trans hi)
    subst this
    have := hw' j h
    rw [getD_both (rdy_spec hrj).1] at this; cases this
   exact h
  obtain ⟨a1, a2, a3⟩ := apartB_spec hap
  rw [Sp.congr (not_sel (hok.sel j oj hj)) a1] at h2
  refine h2.mono fun u w2 ⟨h3, h4⟩ => ⟨h3, ?_⟩
  refine ih (listed.setIfInBounds j true) (updO oj.dst u ρ) w2 (rdy_other (Ne.symm e) hr) (fun w3 h5 => ?_) ?_
  ·rw [Sp.congr (not_sel (hok.sel i oi hi)) a3]
   exact hy w3 (htr h3 h5)
  rw [Array.setIfInBounds_comm _ _ e, ← updO_comm ρ v u a2]
  exact h4

def RE (P : Program) (b : Frame) (cs : List Frame) (fin : Machine → Prop) (n : Nat) (ops : Array Oper) (m : Nat) (G : World → World → Prop) (k : List Item) (ds : List Deferred) (listed : Array Bool) (ρ : Env) (w : World) : Prop :=
 ∃ f, AnyE P n ops m G (fun ρ w => RunL P b cs fin n ops (ops.toList.drop m) k ρ ds w) f listed ρ w

theorem r_drawE {id : Nat} (m : Nat) (Y : Nat → Prop) (hmo : P.follows .mixedOrders = true) (hok : drawOk ops m = true)
  (h : ∀ w1, Le w w1 → RE P b cs fin n ops m (Keep Y) k ds (Array.replicate ops.size false) ρ w1) :
  Run P b cs fin n (.code (.region id ops true) :: k) ρ ds w := by
 refine Run.of_step stepR_region_draw ?_
 have hok := drawOk_spec hok
 obtain ⟨f, hf⟩ := h { w with drawn := w.drawn + 1 } (Le.drew w)
 have := any_run' (P := P) (n := n) (b := b) (cs := cs) (fin := fin) (k := k) (ds := ds) hok (A := AnyE P n ops m (Keep Y) fun ρ w => RunL P b cs fin n ops (ops.toList.drop m) k ρ ds w)
  (fun f listed ρ w h hl => by cases f with
   | zero => exact h.1 hl
   | succ f => exact h.1 hl)
  (fun f listed ρ w i o h hi ho hr => by cases f with
   | zero => have := h.2 i hi; rw [hr] at this; cases this
   | succ f => exact ⟨f, (h.2 i o hi ho hr).mono fun _ _ h => h.2⟩)
  (fun _ _ h => h) ops.size f (w.tape w.drawn (.order b.fn id)) (Array.replicate ops.size false) ρ { w with drawn := w.drawn + 1 } hf
  ⟨by simp, fun j o ho hj => by
   have : j < ops.size := (Array.getElem?_eq_some_iff.1 ho).1
   simp [this] at hj⟩ (fun i _ hi => by simp [hi]) (by omega)
 simp only [Region.schedule, hmo, Bool.true_or, if_true, Region.linearise]
 exact this

variable {Y : Nat → Prop} {listed listed' : Array Bool}

theorem e_exact {v : Value} (i : Nat) (o : Oper) (hok : drawOk ops m = true) (ho : ops[i]? = some o) (him : Nat.blt i m = true) (hr : rdy ops listed i = true) (hl : listed.setIfInBounds i true = listed')
  (hx : Exact P ops n (Keep Y) ρ o w v) (h : RE P b cs fin n ops m (Keep Y) k ds listed' (updO o.dst v ρ) w) : RE P b cs fin n ops m (Keep Y) k ds listed ρ w := by
 subst hl
 obtain ⟨f, hf⟩ := h
 exact ⟨f + 1, AnyE.first (fun w => Keep.refl Y w) (fun h h' => h.trans h') (drawOk_spec hok) ho (by simpa using him) f listed ρ w hr hx hf⟩

theorem e_done (hr : ((List.range m).all fun i => !rdy ops listed i) = true) (h : RunL P b cs fin n ops (ops.toList.drop m) k ρ ds w) : RE P b cs fin n ops m G k ds listed ρ w := by
 refine ⟨0, fun _ => h, fun i hi => ?_⟩
 have := List.all_eq_true.1 hr i (List.mem_range.2 hi)
 simpa using this

theorem filter_lt {α : Type} {p q : α → Bool} {x : α} : ∀ {l : List α}, x ∈ l → (∀ y, q y = true → p y = true) → p x = true → q x = false → (l.filter q).length + 1 ≤ (l.filter p).length := by
 intro l
 induction l with
 | nil => intro h; cases h
 | cons y l ih =>
  intro hx hpq hp hq
  have hle : (l.filter q).length ≤ (l.filter p).length := by
   clear ih hx
   induction l with
   | nil => simp
   | cons z l ih =>
    by_cases hz : q z = true
    ·simp [hz, hpq z hz, ih]
    by_cases hz' : p z = true
    ·simp [hz, hz']; omega
    simp [hz, hz', ih]
  by_cases e : x = y
  ·subst e; simp [hp, hq]; exact hle
  have hx' : x ∈ l := by rcases List.mem_cons.1 hx with h | h; exact absurd h e; exact h
  have := ih hx' hpq hp hq
  by_cases hz : q y = true
  ·simp [hz, hpq y hz]; exact this
  by_cases hz' : p y = true
  ·simp [hz, hz']; omega
  simp [hz, hz']; exact this

def left (m : Nat) (listed : Array Bool) : Nat := ((List.range m).filter fun i => !listed.getD i true).length
theorem left_le (m : Nat) (listed : Array Bool) : left m listed ≤ m := by
 have := List.length_filter_le (fun i => !listed.getD i true) (List.range m); simpa [left] using this
theorem left_set {x : Nat} (hx : x < m) (hl : listed.getD x true = false) : left m (listed.setIfInBounds x true) + 1 ≤ left m listed := by
 refine filter_lt (x := x) (List.mem_range.2 hx) (fun y hy => ?_) (by simp [hl]) ?_
 ·simp only [Bool.not_eq_true'] at hy ⊢
  cases h : listed.getD y true with
  | false => rfl
  | true => rw [getD_set_mono h] at hy; cases hy
 have : x < listed.size := by
  rcases Nat.lt_or_ge x listed.size with h | h
  ·exact h
  simp [h] at hl
 simp [this]

theorem AnyE.trunc {K : Env → World → Prop} : ∀ (f F : Nat) (listed : Array Bool) (ρ : Env) (w : World), left m listed ≤ f → AnyE P n ops m G K F listed ρ w → AnyE P n ops m G K f listed ρ w := by
 intro f
 induction f with
 | zero =>
  intro F listed ρ w hl h
  refine ⟨?_, fun i hi => ?_⟩
  ·cases F with
   | zero => exact h.1
   | succ F => exact h.1
  cases hr : rdy ops listed i with
  | false => rfl
  | true =>
   have := left_set hi (rdy_spec hr).1
   omega
 | succ f ih =>
  intro F listed ρ w hl h
  refine ⟨?_, fun i o hi ho hr => ?_⟩
  ·cases F with
   | zero => exact h.1
   | succ F => exact h.1
  cases F with
  | zero => have := h.2 i hi; rw [hr] at this; cases this
  | succ F =>
   have hls := left_set hi (rdy_spec hr).1
   exact (h.2 i o hi ho hr).mono fun v w2 ⟨h1, h2⟩ => ⟨h1, ih F _ _ _ (by omega) h2⟩

def Each (Q : Nat → Prop) : List Nat → Prop
 | [] => True
 | i :: l => Q i ∧ Each Q l
theorem Each.mem {Q : Nat → Prop} : ∀ {l : List Nat} {i : Nat}, Each Q l → i ∈ l → Q i := by
 intro l
 induction l with
 | nil => intro i _ h; cases h
 | cons j l ih =>
  intro i h hi
  rcases List.mem_cons.1 hi with rfl | hi
  ·exact h.1
  exact ih h.2 hi

def Nx (P : Program) (b : Frame) (cs : List Frame) (fin : Machine → Prop) (n : Nat) (ops : Array Oper) (m : Nat) (Y : Nat → Prop) (k : List Item) (ds : List Deferred) (listed : Array Bool) (ρ : Env) (w : World) (i : Nat) : Prop :=
 ∃ o listed', ops[i]? = some o ∧ listed.setIfInBounds i true = listed' ∧ Sp P ops n ρ o w fun v w2 => Keep Y w w2 ∧ RE P b cs fin n ops m (Keep Y) k ds listed' (updO o.dst v ρ) w2

theorem e_next (is : List Nat) (hl : ((List.range m).all fun i => listed.getD i true) = false) (hr : ((List.range m).all fun j => is.contains j || !rdy ops listed j) = true)
  (h : Each (Nx P b cs fin n ops m Y k ds listed ρ w) is) : RE P b cs fin n ops m (Keep Y) k ds listed ρ w := by
 refine ⟨m + 1, fun hall => ?_, fun i o hi ho hri => ?_⟩
 ·rw [List.all_eq_true.2 fun i hi => hall i (List.mem_range.1 hi)] at hl; cases hl
 have h1 := List.all_eq_true.1 hr i (List.mem_range.2 hi)
 rw [hri] at h1
 obtain ⟨o', listed', ho', hl', hs⟩ := h.mem (i := i) (by simpa using h1)
 have : o' = o := Option.some.inj (ho'.symm.trans ho)
 subst this
 subst hl'
 exact hs.mono fun v w2 ⟨h1, f, hf⟩ => ⟨h1, hf.trunc _ _ _ _ _ (left_le _ _)⟩
end

section
variable {P : Program} {n : Nat} {all : Array Oper} {ρ : Env} {w w' : World} {d : Nat} {op : Op} {ty : TypeId} {pos : String} {af : Array Edge} {g : Option (Nat × Bool)} {v : Value} {Y : Nat → Prop} {o : Oper} {Φ : Value → World → Prop}

theorem ex_x (hg : gOk all n ρ g = true) (hx : ∀ w1, Keep Y w w1 → X P (ev n ρ) op ty w1 v w1) : Exact P all n (Keep Y) ρ ⟨some d, op, ty, pos, af, g⟩ w v := by
 intro w1 h1
 unfold Sp
 rw [if_pos hg]
 exact ⟨(hx w1 h1).1, .inl ⟨v, w1, (hx w1 h1).2 .., rfl, rfl⟩⟩
theorem s_x {d' : Option Nat} (hg : gOk all n ρ g = true) (hx : X P (ev n ρ) op ty w v w') (h : Φ v w') : Sp P all n ρ ⟨d', op, ty, pos, af, g⟩ w Φ := by
 unfold Sp
 rw [if_pos hg]
 exact ⟨hx.1, .inl ⟨v, w', hx.2 .., h⟩⟩
theorem s_call (hg : gOk all n ρ o.guard = true) (hnd : ∀ c, o.op ≠ .defer c) {f : FuncId} {args : Array Value} (hr : (execOp (ev n ρ) o).run P w = .ok (.enter f args) w) (hc : Cl P f args w Φ) : Sp P all n ρ o w Φ := by
 unfold Sp
 rw [if_pos hg]
 exact ⟨hnd, .inr (.inl ⟨f, args, w, hr, hc⟩)⟩
end

section
variable {P : Program} {n : Nat} {all : Array Oper} {ρ : Env} {w w' : World} {d : Nat} {ty : TypeId} {pos : String} {af : Array Edge} {g : Option (Nat × Bool)} {v : Value} {T : TypeId} {x y : Operand} {Φ : Value → World → Prop}
 {X : Nat → Prop} {w0 : World} {L : List Rsc} {α : Type} {E : Elt α}
theorem s_buildSlice (E : Elt α) {len : Nat} {parts : List (Nat × Operand)} (as : List α) {z : Value} (S : Own X w0 w L) (hg : gOk all n ρ g = true) (hu : ∀ w, (underlying T).run P w = .ok (.slice E.T) w)
  (hs : ∀ w, (sizeOf E.T).run P w = .ok E.sz w) (hz : ∀ w, (zeroValue E.T).run P w = .ok z w) (hl : as.length = len) (hp : PartsOk (ev n ρ) E 0 parts as) (hsm : len * E.sz ≤ 16777216)
  (h : ∀ v w', Own X w0 w' (L ++ [vec E v as]) → Le w w' → Φ v w') :
  Sp P all n ρ ⟨some d, .buildSlice T len parts.toArray, ty, pos, af, g⟩ w Φ := by
 have hpos := E.pos
 have hlen : len ≤ maxLen := by
  have : len ≤ len * E.sz := Nat.le_mul_of_pos_right _ hpos
  simp only [maxLen]; omega
 subst hl
 refine s_x hg (v := .slice (some ⟨w.heap.size, 0, none⟩) as.length as.length) (w' := w.alloc (.cells (as.flatMap E.enc).toArray E.T (0, 0))) ⟨nofun, fun _ _ _ _ => ?_⟩
  (h _ _ (S.add (Le.alloc_cells _ _ _) (vec_new (Nat.le_refl _) hlen (flatMap_enc_length E as) (by rw [List.take_of_length_le]; rw [flatMap_enc_length]; exact Nat.le_refl _))) (Le.alloc_cells _ _ _))
 simp only [execOp, Instr.buildSlice, Sem.run_bind, hu, hs, Result.andThen_ok]
 rw [if_neg (by simpa using hsm)]
 have hfill : ∀ zz : Array Value, Instr.fill (fun i => some (i * E.sz, E.sz)) ((Array.range (as.length * E.sz)).map (zz[· % zz.size]!)) (parts.map fun p => (p.1, ev n ρ p.2)) = some (as.flatMap E.enc).toArray := by
  intro zz
  have := fill_parts (E := E) (ev := ev n ρ) parts as 0 [] ((Array.range (as.length * E.sz)).map (zz[· % zz.size]!)).toList hp (by simp) (by simp)
  simpa only [List.nil_append, Array.toArray_toList] using this
 simp only [List.map_toArray]
 by_cases h0 : as.length * E.sz = 0
 ·rw [if_pos h0]
  simp only [Sem.run_bind, Sem.run_pure, Result.andThen_ok, hfill]
  rfl
 rw [if_neg h0]
 simp only [Sem.run_bind, hz, Sem.run_pure, Result.andThen_ok, hfill]
 rfl

theorem s_make (E : Elt α) (a0 : α) {len cap : Nat} {ti : TypeInfo} {z : Value} (S : Own X w0 w L) (hg : gOk all n ρ g = true) (hu : ∀ w, (underlying T).run P w = .ok (.slice E.T) w)
  (hs : ∀ w, (sizeOf E.T).run P w = .ok E.sz w) (hti : ∀ w, (typeInfo E.T).run P w = .ok ti w) (hz : ∀ w, (zeroValue E.T).run P w = .ok z w) (hzc : z.cells = E.zero.toArray) (h0 : E.enc a0 = E.zero)
  (hx : ev n ρ x = .int .i64 len) (hy : ev n ρ y = .int .i64 cap) (hlc : len ≤ cap) (hm : cap ≤ maxLen) (hb : cap * ti.bytes ≤ 140737488355328)
  (h : ∀ v w', (∃ b, v = .slice (some ⟨b, 0, none⟩) len cap) → Own X w0 w' (L ++ [vec E v (List.replicate len a0)]) → Le w w' → Φ v w') :
  Sp P all n ρ ⟨some d, .makeSlice T x y, ty, pos, af, g⟩ w Φ := by
 have hpos := E.pos
 have hm' : cap ≤ 9223372036854775807 := by simp only [maxLen] at hm; omega
 have hvn := vec_new (w := w) (E := E) (c := (List.replicate cap E.zero).flatten) (l := List.replicate len a0) (cap := cap) (by simpa using hlc) hm (by simp [E.zlen]) (by
  rw [List.length_replicate, flatMap_replicate, h0]
  obtain ⟨e, rfl⟩ : ∃ e, cap = len + e := ⟨cap - len, by omega⟩
  rw [← List.replicate_append_replicate, List.flatten_append, List.take_append_of_le_length (by simp [E.zlen]), List.take_of_length_le (by simp [E.zlen])])
 rw [List.length_replicate] at hvn
 refine s_x hg (v := .slice (some ⟨w.heap.size, 0, none⟩) len cap) (w' := w.alloc (.cells (List.replicate cap E.zero).flatten.toArray E.T (0, 0))) ⟨nofun, fun _ _ _ _ => ?_⟩
  (h _ _ ⟨_, rfl⟩ (S.add (Le.alloc_cells _ _ _) hvn) (Le.alloc_cells _ _ _))
 have hw1 : IntKind.i64.wrap (len : Int) = len := IntWalk.i64_in _ (by omega)
 have hw2 : IntKind.i64.wrap (cap : Int) = cap := IntWalk.i64_in _ (by omega)
 have eb : ∀ m : Nat, (ti.bytes : Int) * (m : Int) = ((m * ti.bytes : Nat) : Int) := fun m => by rw [Int.natCast_mul, Int.mul_comm]
 have hlen : len * ti.bytes ≤ 140737488355328 := Nat.le_trans (Nat.mul_le_mul_right _ hlc) hb
 have hroom : ∀ w, (askRoom (cap * ti.bytes)).run P w = .ok () w := by
  intro w
  unfold askRoom roomBytes
  rw [if_neg (by omega)]
  rfl
 have hcells : ∀ zz : Array Value, (cap * E.sz = 0 ∨ zz = E.zero.toArray) → (Array.range (cap * E.sz)).map (fun i => zz[i % zz.size]!) = (List.replicate cap E.zero).flatten.toArray := by
  intro zz hz0
  by_cases hc : cap * E.sz = 0
  ·have : cap = 0 := by
    rcases Nat.mul_eq_zero.1 hc with h | h
    ·exact h
    omega
   subst this
   simp
  have hzz := hz0.resolve_left hc
  have := range_zero E.zero cap
  rw [← this, E.zlen, hzz]
  apply Array.ext'
  simp [E.zlen]
 have htl : ∀ m : Nat, m * ti.bytes ≤ 140737488355328 → (decide ((m : Int) < 0) || decide ((ti.bytes : Int) * (m : Int) > 2 ^ 48)) = false := by
  intro m hm
  rw [eb]
  have h1 : ¬ ((m : Int) < 0) := by omega
  have h2 : ¬ (((m * ti.bytes : Nat) : Int) > 2 ^ 48) := by
   rw [show (2 : Int) ^ 48 = 281474976710656 from rfl]; omega
  simp only [h1, h2, decide_false, Bool.or_false]
 simp only [execOp, Instr.makeSlice, Sem.run_bind, hu, Result.andThen_ok, hx, hy, asInt, asIntOf, Sem.run_pure, hti, hw1, hw2, htl cap hb, htl len hlen]
 have h3 : ¬ ((len : Int) < 0) := by omega
 have h4 : ¬ ((len : Int) > (cap : Int)) := by omega
 simp only [h3, h4, decide_false, Bool.or_false, Bool.false_eq_true, if_false, Int.toNat_natCast]
 by_cases h0 : cap * E.sz = 0
 ·simp only [Sem.run_bind, hroom, Result.andThen_ok, hs]
  rw [if_pos h0]
  simp only [Sem.run_bind, Sem.run_pure, Result.andThen_ok, hcells _ (.inl h0)]
  rfl
 simp only [Sem.run_bind, hroom, Result.andThen_ok, hs]
 rw [if_neg h0]
 simp only [Sem.run_bind, hz, hzc, Sem.run_pure, Result.andThen_ok, hcells _ (.inr rfl)]
 rfl


theorem s_append (E : Elt α) {i : TypeInfo} {z : Value} {xv : Value} {l xs : List α} (S : Own X w0 w L) (j : Nat) (hj : L[j]? = some (vec E v l)) (hg : gOk all n ρ g = true) (hx : ev n ρ x = v) (hy : ev n ρ y = xv) (hr : Rd E w xv xs)
  (ht : P.underlying T = some (.slice E.T)) (hi : P.info? E.T = some i) (hz : i.zero = some z) (hsz : i.size = E.sz) (hzc : z.cells.size = E.sz)
  (h63 : l.length + xs.length ≤ maxLen) (h47 : (l.length + xs.length) * i.bytes ≤ 140737488355328)
  (h : ∀ v' w', Own X w0 w' (L.set j (vec E v' (l ++ xs))) → Keep (vec E v l).fp w w' → (l ++ xs ≠ [] → ∃ b cap, v' = .slice (some ⟨b, 0, none⟩) (l.length + xs.length) cap) → Φ v' w') :
  Sp P all n ρ ⟨some d, .call ⟨.builtin .append, #[x, y], #[T, T]⟩, ty, pos, af, g⟩ w Φ := by
 obtain ⟨v', w', hrun, h1, h2, h3⟩ := run_append_vec (P := P) (ty := ty) S j hj hr ht hi hz hsz hzc h63 h47
 refine s_x hg ⟨nofun, fun _ _ _ _ => ?_⟩ (h v' w' h1 h2 h3)
 simp only [execOp, resolve, Sem.run_bind, Sem.run_pure, Result.andThen_ok, invoke, builtin, List.map_toArray, List.map_cons, List.map_nil, hx, hy, hrun]

theorem s_alloc {X : Nat → Prop} {w0 : World} {L : List Rsc} {c : List Value} {z : Value} (S : Own X w0 w L) (hg : gOk all n ρ g = true) (hz : ∀ w, (zeroValue T).run P w = .ok z w) (hx : z.cells = c.toArray)
  (h : ∀ b' w', Own X w0 w' (L ++ [blk b' c T]) → Le w w' → Φ (.pointer (some ⟨b', 0, none⟩)) w') :
  Sp P all n ρ ⟨some d, .alloc T, ty, pos, af, g⟩ w Φ := by
 refine s_x hg (v := .pointer (some ⟨w.heap.size, 0, none⟩)) (w' := w.alloc (.cells c.toArray T (0, 0))) ⟨nofun, fun _ _ _ _ => ?_⟩ (h _ _ (S.alloc c T) (Le.alloc_cells _ _ _))
 simp only [execOp, Instr.alloc, Sem.run_bind, hz, run_newVar, Result.andThen_ok, Sem.run_pure, hx]

theorem s_callf {all : Array Oper} {d' : Option Nat} {F : Operand} {as : List Operand} {ts : Array TypeId} {f : FuncId} (first cap vals : List Value)
  (hg : gOk all n ρ g = true) (hF : ev n ρ F = .func (.func f) first.toArray cap.toArray) (he : ∀ args w, (callFunc f args).run P w = .ok (.enter f args) w) (ha : first ++ as.map (ev n ρ) ++ cap = vals)
  (hc : Cl P f vals.toArray w Φ) : Sp P all n ρ ⟨d', .call ⟨.value F, as.toArray, ts⟩, ty, pos, af, g⟩ w Φ := by
 subst ha
 refine s_call hg nofun ?_ hc
 exact run_call hF he rfl
end

section
variable {P : Program} {b : Frame} {cs : List Frame} {fin : Machine → Prop} {n : Nat} {k : List Item} {ρ : Env} {ds : List Deferred} {w w' : World} {ops : Array Oper} {m : Nat} {Y : Nat → Prop} {listed : Array Bool}
def loose (r : Rsc) : Rsc := ⟨r.fp, fun _ => True, fun _ h => h⟩
theorem Own.under {X : Nat → Prop} {w0 w1 : World} {L : List Rsc} {r : Rsc} (S : Own X w0 w L) (j : Nat) (hj : L[j]? = some r) (h : Keep r.fp w w1) : Own X w0 w1 (L.set j (loose r)) :=
 S.turn j hj h (fun _ _ h => h) trivial fun _ h => .inl h
end

section
variable {P : Program} {b : Frame} {cs : List Frame} {fin : Machine → Prop} {n : Nat} {k : List Item} {ρ : Env} {ds : List Deferred} {w w' : World} {ops : Array Oper} {m : Nat} {Y : Nat → Prop} {listed listed' : Array Bool}
 {d : Nat} {ty : TypeId} {pos : String} {af : Array Edge} {g : Option (Nat × Bool)} {v : Value} {T : TypeId} {x y : Operand}
theorem e_index {α : Type} (L : Elt α) {l : List α} {j : Int} {q : α} (i : Nat) (hok : drawOk ops m = true) (ho : ops[i]? = some ⟨some d, .indexAddr T x y, ty, pos, af, g⟩) (him : Nat.blt i m = true) (hr : rdy ops listed i = true)
  (hl : listed.setIfInBounds i true = listed') (hg : gOk ops n ρ g = true) (hrd : Rd L w v l) (hx : ev n ρ x = v) (hy : ev n ρ y = .int .i64 j)
  (hu : ∀ w, (underlying T).run P w = .ok (.slice L.T) w) (hs : ∀ w, (sizeOf L.T).run P w = .ok L.sz w) (hb : 0 ≤ j) (hi : l[j.toNat]? = some q)
  (h : ∀ b' o', At L v j.toNat ⟨b', o', none⟩ → RE P b cs fin n ops m (Keep Y) k ds listed' (upd ρ d (.pointer (some ⟨b', o', none⟩))) w) :
  RE P b cs fin n ops m (Keep Y) k ds listed ρ w := by
 obtain ⟨p, cap, rfl, hc, hrow⟩ := hrd
 obtain ⟨b', o', rfl, hrw⟩ := hrow j.toNat q hi
 have hlt : j.toNat < l.length := (List.getElem?_eq_some_iff.1 hi).1
 exact e_exact i _ hok ho him hr hl (ex_x hg fun w1 _ => x_indexAddr_slice hx hy hu hs ⟨hb, by omega⟩) (h b' (o' + j.toNat * L.sz) ⟨b', o', _, _, rfl, rfl⟩)
end
theorem rd_row {α : Type} {E : Elt α} {w : World} {v : Value} {l : List α} {i b' o' : Nat} {a : α} (h : Rd E w v l) (hat : At E v i ⟨b', o', none⟩) (ha : l[i]? = some a) : Row w b' o' (E.enc a) := by
 obtain ⟨p, cap, rfl, _, hrow⟩ := h
 obtain ⟨b1, o1, rfl, hr⟩ := hrow i a ha
 obtain ⟨b2, o2, len, cap2, hv, hq⟩ := hat
 simp only [Value.slice.injEq, Option.some.injEq, Addr.mk.injEq, and_true] at hv hq
 obtain ⟨⟨rfl, rfl⟩, _⟩ := hv
 obtain ⟨rfl, rfl⟩ := hq
 exact hr

section
variable {P : Program} {n : Nat} {all : Array Oper} {ρ : Env} {w w' : World} {ty : TypeId} {pos : String} {af : Array Edge} {g : Option (Nat × Bool)} {o : Oper} {Φ : Value → World → Prop}
variable {T : TypeId} {x y : Operand} {X : Nat → Prop} {w0 : World} {L : List Rsc} {d' : Option Nat} {α : Type} {E : Elt α} {v : Value} {b' o f i : Nat} {l : List α} {a a' : α}
end
end Go.Vk

namespace Go.Vk
open Go

section
variable {P : Program} {ev : Operand → Value} {w : World} {ty : TypeId} {x y : Operand} {S T : TypeId} {a : Int}
theorem x_convert {s k : IntKind} {u : TypeDesc} (hx : ev x = .int s a) (hs : ∀ w, (underlying S).run P w = .ok u w) (hd : ∀ w, (underlying T).run P w = .ok (.int k) w) (hr : k.wrap a = a) : X P ev (.convert S T x) ty w (.int k a) w :=
 ⟨nofun, fun _ _ _ _ => by
  simp only [execOp, hx, convert, Sem.run_bind, hs, hd, Result.andThen_ok]
  cases u <;> simp [Conv.intToInt, hr, go_sem]⟩
theorem i64_in {a : Int} (h : -9223372036854775808 ≤ a ∧ a ≤ 9223372036854775807) : IntKind.i64.wrap a = a := IntWalk.i64_in _ h
end

section
variable {P : Program} {b : Frame} {cs : List Frame} {fin : Machine → Prop} {n : Nat} {all : Array Oper} {rest : List Oper} {k : List Item} {ρ : Env} {ds : List Deferred} {w : World} {X : Nat → Prop} {w0 : World} {L : List Rsc}
 {d : Nat} {d' : Option Nat} {ty : TypeId} {pos : String} {af : Array Edge} {g : Option (Nat × Bool)} {T T' : TypeId} {x y : Operand} {α : Type} {E : Elt α} {v vd vs : Value} {l xs : List α} {p : Nat}

end

section
variable {P : Program} {b : Frame} {cs : List Frame} {fin : Machine → Prop} {n : Nat} {k : List Item} {ρ : Env} {ds : List Deferred} {w : World} {ops : Array Oper} {m : Nat} {Y : Nat → Prop} {listed listed' : Array Bool}
 {d : Nat} {ty : TypeId} {pos : String} {af : Array Edge} {g : Option (Nat × Bool)} {v : Value} {T : TypeId} {x z : Operand} {α : Type} {E : Elt α} {l : List α} {q : Int}
end

def rp (z : Int) (c i : Nat) : List Int := List.replicate i z ++ List.replicate (c - i) 0
end Go.Vk

namespace Go.Vk
open Go

def yng (w : World) : Nat → Prop := fun b => w.heap.size ≤ b

section
variable {X : Nat → Prop} {w0 w w1 w2 : World} {L : List Rsc}
theorem Own.yng (S : Own X w0 w L) (h : Keep (Vk.yng w) w w1) : Own X w0 w1 L := by
 have h' : Le w w1 := ⟨h.os, h.tape, h.output, h.size, fun b hb _ => h.block b hb (Nat.not_le_of_gt hb), h.drawn⟩
 exact S.step h'
end

section
variable {P : Program} {n : Nat} {all : Array Oper} {ρ : Env} {w : World} {d : Nat} {ty : TypeId} {pos : String} {af : Array Edge} {g : Option (Nat × Bool)} {T : TypeId} {x : Operand} {Φ : Value → World → Prop}
end
end Go.Vk

namespace Go.Vk
open Go
section
variable {P : Program} {b : Frame} {cs : List Frame} {fin : Machine → Prop} {n : Nat} {k : List Item} {ρ : Env} {ds : List Deferred} {w : World}
theorem r_forget (sl : List (Nat × Value)) (ha : Agree ρ sl) (h : ∀ ρ, Run P b cs fin n k (upds ρ sl) ds w) : Run P b cs fin n k ρ ds w := by
 have := h ρ
 rwa [upds_agree ha] at this
end
end Go.Vk

namespace Go.Vk
open Go
section
variable {P : Program} {b : Frame} {cs : List Frame} {fin : Machine → Prop} {n : Nat} {k : List Item} {ρ : Env} {ds : List Deferred} {w : World} {all : Array Oper} {rest : List Oper}
 {d : Nat} {ty : TypeId} {pos : String} {af : Array Edge} {g : Option (Nat × Bool)} {v : Value} {T : TypeId} {x z : Operand} {α : Type} {E : Elt α} {l : List α} {q : Int}
end
end Go.Vk

namespace Go.Vk
open Go
section
variable {P : Program} {ev : Operand → Value} {w : World} {ty : TypeId} {x y : Operand} {S T T' : TypeId} {a c : Int}
end
end Go.Vk

namespace Go.Vk
open Go
def netE (T : TypeId) : Elt (Int × Hd) where
 T := T
 sz := 2
 enc p := [.int .i64 p.1, hv p.2]
 zero := [.int .i64 0, .slice none 0 0]
 len _ := rfl
 zlen := rfl
 one a x h := by simp at h; rcases h with h | h <;> subst h <;> rfl
 pos := by decide
end Go.Vk

namespace Go.Vk
open Go

structure MapOk {κ α : Type} (key : κ → Value) (val : α → Value) (f : κ → Option α) (es : Array MapEntry) (clock : Nat) : Prop where
 st : MapKept.Stamped es clock
 of : ∀ x ∈ es.toList, ∃ k a, x.key = key k ∧ x.val = val a ∧ f k = some a
 all : ∀ k a, f k = some a → ∃ x ∈ es.toList, x.key = key k ∧ x.val = val a
def mapr {κ α : Type} (key : κ → Value) (val : α → Value) (b : Nat) (f : κ → Option α) : Rsc :=
 ⟨(· = b), fun w => ∃ es clock, w.heap[b]? = some (.map es clock) ∧ MapOk key val f es clock, fun h ⟨es, clock, h1, h2⟩ => ⟨es, clock, (h b rfl).trans h1, h2⟩⟩
structure KeyOk {κ : Type} (P : Program) (kt : TypeId) (d : TypeDesc) (key : κ → Value) : Prop where
 u : P.underlying kt = some d
 is : ∀ k, MapKept.IsKey d (key k)
 inj : ∀ k k', key k = key k' → k = k'
abbrev kInt (k : Int) : Value := .int .i64 k
set_option linter.unusedSectionVars false
set_option linter.unusedVariables false
section
variable {κ α : Type} [DecidableEq κ] {key : κ → Value} {val : α → Value} {f : κ → Option α} {es : Array MapEntry} {clock : Nat} {k : κ} {a : α}
def mnil : κ → Option α := fun _ => none
def mset (f : κ → Option α) (k : κ) (a : α) : κ → Option α := fun k' => if k' = k then some a else f k'
def mdel (f : κ → Option α) (k : κ) : κ → Option α := fun k' => if k' = k then none else f k'
omit [DecidableEq κ] in
theorem MapOk.nil : MapOk key val (mnil : κ → Option α) #[] 0 := ⟨MapKept.stamped_empty 0, by simp, fun _ _ h => by cases h⟩
theorem MapOk.find {P : Program} {kt : TypeId} {d : TypeDesc} (h : MapOk key val f es clock) (hK : KeyOk P kt d key) (k : κ) :
  (f k = none ∧ Instr.findNow d (key k) es.toList 0 = some none ∧ ∀ x ∈ es.toList, x.key ≠ key k) ∨
  ∃ a j e, f k = some a ∧ Instr.findNow d (key k) es.toList 0 = some (some (j, val a)) ∧ es[j]? = some e ∧ e.key = key k ∧ e.val = val a := by
 have hks : ∀ x ∈ es.toList, MapKept.IsKey d x.key := fun x hx => by
  obtain ⟨k', _, h1, _⟩ := h.of x hx; rw [h1]; exact hK.is k'
 rcases MapKept.findNow_spec (hK.is k) es.toList 0 hks with ⟨h1, h2⟩ | ⟨j, e, h1, h2, h3⟩
 ·refine .inl ⟨?_, h1, h2⟩
  cases hf : f k with
  | none => rfl
  | some a =>
   obtain ⟨x, hx, e1, _⟩ := h.all k a hf
   exact absurd e1 (h2 x hx)
 obtain ⟨k', a, e1, e2, e3⟩ := h.of e (List.mem_of_getElem? h2)
 have : k' = k := hK.inj _ _ (e1.symm.trans h3)
 subst this
 exact .inr ⟨a, j, e, e3, by rw [h1, Nat.zero_add, e2], by rw [← Array.getElem?_toList]; exact h2, h3, e2⟩
theorem MapOk.push {P : Program} {kt : TypeId} {d : TypeDesc} (h : MapOk key val f es clock) (hK : KeyOk P kt d key) (h2 : ∀ x ∈ es.toList, x.key ≠ key k) (a : α) : MapOk key val (mset f k a) (es.push { key := key k, val := val a, born := clock }) (clock + 1) := by
 refine ⟨MapKept.stamped_push h.st h2, fun x hx => ?_, fun k' a' hf => ?_⟩
 ·simp only [Array.toList_push, List.mem_append, List.mem_singleton] at hx
  rcases hx with hx | rfl
  ·obtain ⟨k', a', e1, e2, e3⟩ := h.of x hx
   refine ⟨k', a', e1, e2, ?_⟩
   rw [mset, if_neg (fun e => h2 x hx (by rw [e1, e]))]; exact e3
  exact ⟨k, a, rfl, rfl, by rw [mset, if_pos rfl]⟩
 simp only [Array.toList_push, List.mem_append, List.mem_singleton]
 unfold mset at hf
 split at hf
 ·next e => cases hf; subst e; exact ⟨_, .inr rfl, rfl, rfl⟩
 obtain ⟨x, hx, e1, e2⟩ := h.all k' a' hf
 exact ⟨x, .inl hx, e1, e2⟩
theorem MapOk.modify {P : Program} {kt : TypeId} {d : TypeDesc} (h : MapOk key val f es clock) (hK : KeyOk P kt d key) {j : Nat} {e : MapEntry} (he : es[j]? = some e) (hk : e.key = key k) (a : α) : MapOk key val (mset f k a) (es.modify j fun e => { e with key := key k, val := val a }) clock := by
 have hget : ∀ i, (es.modify j fun e => { e with key := key k, val := val a })[i]? = if j = i then es[i]?.map (fun e => { e with key := key k, val := val a }) else es[i]? := fun i => by rw [Array.getElem?_modify]
 refine ⟨MapKept.stamped_modify h.st j _ (fun _ _ => rfl) (fun e' _ h' => by rw [he] at h'; cases h'; exact hk.symm), fun x hx => ?_, fun k' a' hf => ?_⟩
 ·obtain ⟨i, hi⟩ := List.mem_iff_getElem?.1 hx
  rw [Array.getElem?_toList, hget] at hi
  split at hi
  ·next e1 =>
   subst e1
   rw [he] at hi
   cases hi
   exact ⟨k, a, rfl, rfl, by rw [mset, if_pos rfl]⟩
  next e1 =>
  obtain ⟨k', a', q1, q2, q3⟩ := h.of x (List.mem_of_getElem? (by rw [Array.getElem?_toList]; exact hi))
  refine ⟨k', a', q1, q2, ?_⟩
  rw [mset, if_neg (fun e2 => e1 ?_)]; exact q3
  -- keys are distinct
  have hn := List.pairwise_iff_getElem.1 (MapKept.stamped_iff es clock |>.1 h.st).2.2
  obtain ⟨l1, g1⟩ := Array.getElem?_eq_some_iff.1 he
  obtain ⟨l2, g2⟩ := Array.getElem?_eq_some_iff.1 hi
  rcases Nat.lt_trichotomy j i with hlt | hlt | hlt
  ·exact absurd (show es.toList[j].key = es.toList[i].key by rw [Array.getElem_toList, Array.getElem_toList, g1, g2, hk, q1, e2]) (hn j i (by simpa using l1) (by simpa using l2) hlt)
  ·exact hlt
  exact absurd (show es.toList[i].key = es.toList[j].key by rw [Array.getElem_toList, Array.getElem_toList, g1, g2, hk, q1, e2]) (hn i j (by simpa using l2) (by simpa using l1) hlt)
 unfold mset at hf
 split at hf
 ·next e1 =>
  cases hf; subst e1
  exact ⟨_, List.mem_iff_getElem?.2 ⟨j, by rw [Array.getElem?_toList, hget, if_pos rfl, he]; rfl⟩, rfl, rfl⟩
 next e1 =>
 obtain ⟨x, hx, q1, q2⟩ := h.all k' a' hf
 obtain ⟨i, hi⟩ := List.mem_iff_getElem?.1 hx
 refine ⟨x, List.mem_iff_getElem?.2 ⟨i, ?_⟩, q1, q2⟩
 rw [Array.getElem?_toList] at hi ⊢
 rw [hget, if_neg (fun e2 => e1 ?_)]; exact hi
 subst e2
 rw [he] at hi; cases hi
 exact hK.inj _ _ (q1.symm.trans hk)
theorem MapOk.erase {P : Program} {kt : TypeId} {d : TypeDesc} (h : MapOk key val f es clock) (hK : KeyOk P kt d key) {j : Nat} {e : MapEntry} (he : es[j]? = some e) (hk : e.key = key k) : MapOk key val (mdel f k) (es.eraseIdxIfInBounds j) clock := by
 have hj : j < es.size := (Array.getElem?_eq_some_iff.1 he).1
 have hl : (es.eraseIdxIfInBounds j).toList = es.toList.eraseIdx j := by
  unfold Array.eraseIdxIfInBounds; rw [dif_pos hj]; simp
 have hn := List.pairwise_iff_getElem.1 (MapKept.stamped_iff es clock |>.1 h.st).2.2
 refine ⟨MapKept.stamped_erase h.st j, fun x hx => ?_, fun k' a' hf => ?_⟩
 ·rw [hl] at hx
  obtain ⟨k', a', q1, q2, q3⟩ := h.of x (List.mem_of_mem_eraseIdx hx)
  refine ⟨k', a', q1, q2, ?_⟩
  rw [mdel, if_neg (fun e2 => ?_)]; exact q3
  obtain ⟨i, hne, hi⟩ := List.mem_eraseIdx_iff_getElem?.1 hx
  rw [Array.getElem?_toList] at hi
  obtain ⟨l1, g1⟩ := Array.getElem?_eq_some_iff.1 he
  obtain ⟨l2, g2⟩ := Array.getElem?_eq_some_iff.1 hi
  rcases Nat.lt_trichotomy j i with hlt | hlt | hlt
  ·exact absurd (show es.toList[j].key = es.toList[i].key by rw [Array.getElem_toList, Array.getElem_toList, g1, g2, hk, q1, e2]) (hn j i (by simpa using l1) (by simpa using l2) hlt)
  ·exact hne hlt.symm
  exact absurd (show es.toList[i].key = es.toList[j].key by rw [Array.getElem_toList, Array.getElem_toList, g1, g2, hk, q1, e2]) (hn i j (by simpa using l2) (by simpa using l1) hlt)
 unfold mdel at hf
 split at hf
 ·cases hf
 next e1 =>
 obtain ⟨x, hx, q1, q2⟩ := h.all k' a' hf
 refine ⟨x, ?_, q1, q2⟩
 rw [hl]
 obtain ⟨i, hi⟩ := List.mem_iff_getElem?.1 hx
 refine List.mem_eraseIdx_iff_getElem?.2 ⟨i, fun e2 => e1 ?_, hi⟩
 subst e2
 rw [Array.getElem?_toList, he] at hi; cases hi
 exact hK.inj _ _ (q1.symm.trans hk)
variable {P : Program} {X : Nat → Prop} {w0 w w' : World} {L : List Rsc} {b : Nat}
theorem MapOk.lt (h : (mapr key val b f).ok w) : b < w.heap.size := let ⟨_, _, h1, _⟩ := h; (Array.getElem?_eq_some_iff.1 h1).1
theorem Keep.setObj (w : World) (o : Obj) : Keep (· = b) w { w with heap := w.heap.setIfInBounds b o } :=
 ⟨rfl, rfl, rfl, by simp, fun i _ h => by simp [Ne.symm h], Nat.le_refl _⟩
theorem Own.setMap (S : Own X w0 w L) (j : Nat) (hj : L[j]? = some (mapr key val b f)) {es : Array MapEntry} {clock : Nat} {g : κ → Option α} (h : MapOk key val g es clock) :
  Own X w0 { w with heap := w.heap.setIfInBounds b (.map es clock) } (L.set j (mapr key val b g)) := by
 refine S.turn j hj (Keep.setObj w _) (fun _ _ h => h) ⟨es, clock, ?_, h⟩ (fun _ h => .inl h)
 have := MapOk.lt (S.at j hj)
 simp [this]
end

section
variable {κ α : Type} [DecidableEq κ] {key : κ → Value} {val : α → Value} {f : κ → Option α} {k0 : κ} {a0 : α} {P : Program} {E : Operand → Value} {w : World} {ty T kt et : TypeId} {x y : Operand} {d : TypeDesc} {b : Nat} {v z : Value}
end

section
variable {P : Program} {b : Frame} {cs : List Frame} {fin : Machine → Prop} {n : Nat} {all : Array Oper} {rest : List Oper} {k : List Item} {ρ : Env} {ds : List Deferred} {w w' : World}
 {d : Nat} {ty : TypeId} {pos : String} {af : Array Edge} {g : Option (Nat × Bool)} {T kt et : TypeId} {x y z : Operand} {dk : TypeDesc}
 {κ α : Type} [DecidableEq κ] {key : κ → Value} {val : α → Value} {f : κ → Option α} {k0 : κ} {a0 : α} {X : Nat → Prop} {w0 : World} {L : List Rsc} {m : Nat} {d' : Option Nat}
omit [DecidableEq κ] in
theorem New.map (w : World) (key : κ → Value) (val : α → Value) : New w (w.alloc (.map #[] 0)) (mapr key val w.heap.size mnil) :=
 ⟨⟨#[], 0, (MapKept.heap_alloc w _).1, .nil⟩, fun b hb => by cases hb; simp⟩
theorem Le.alloc_map (w : World) : Le w (w.alloc (.map #[] 0)) := ⟨rfl, rfl, rfl, by simp, fun b hb _ => (MapKept.heap_alloc w _).2 b hb, Nat.le_refl _⟩
omit [DecidableEq κ] in
theorem l_makeMap (key : κ → Value) (val : α → Value) (S : Own X w0 w L) (hg : gOk all n ρ g = true)
  (h : ∀ m w', Own X w0 w' (L ++ [mapr key val m mnil]) → Le w w' → RunL P b cs fin n all rest k (upd ρ d (.map (some m))) ds w') :
  RunL P b cs fin n all (⟨some d, .makeMap T none, ty, pos, af, g⟩ :: rest) k ρ ds w :=
 l_x hg (v := .map (some w.heap.size)) (w' := w.alloc (.map #[] 0)) ⟨nofun, fun _ _ _ _ => by simp [execOp, Instr.makeMap, Result.andThen]⟩ (h _ _ (S.add (Le.alloc_map w) (New.map w key val)) (Le.alloc_map w))
end
end Go.Vk

namespace Go.Vk
open Go

abbrev pentry (v : Value) : PanicEntry := { v := v, recovered := false, goexit := false }
abbrev pdone (v : Value) : PanicEntry := { v := v, recovered := true, goexit := false }

def Cp (P : Program) (f : FuncId) (args : Array Value) (w : World) (R Q : Value → World → Prop) : Prop :=
 Calls P f args w fun e w' => (∃ v, e = .returned v ∧ R v w') ∨ ∃ v, e = .panicked [pentry v] ∧ Q v w'
def finP (P : Program) (f : FuncId) (cs : List Frame) (R Q : Value → World → Prop) : Machine → Prop := fun m =>
 ∃ e w' fr, m = lone fr cs w' ∧ ((∃ v, e = Ending.returned v ∧ R v w') ∨ ∃ v, e = Ending.panicked [pentry v] ∧ Q v w') ∧ fr.fn = f ∧ fr.leaving P w' e

section
variable {P : Program} {f : FuncId} {args : Array Value} {w : World} {R R' Q Q' : Value → World → Prop}
theorem Cp.mono (h : Cp P f args w R Q) (hr : ∀ v w', R v w' → R' v w') (hq : ∀ v w', Q v w' → Q' v w') : Cp P f args w R' Q' :=
 Calls.mono h fun _ _ h => h.imp (fun ⟨v, he, hR⟩ => ⟨v, he, hr _ _ hR⟩) fun ⟨v, he, hQ⟩ => ⟨v, he, hq _ _ hQ⟩
theorem Cl.cp (h : Cl P f args w R) : Cp P f args w R Q := Calls.mono h fun _ _ ⟨v, he, hR⟩ => .inl ⟨v, he, hR⟩
theorem fn_of_runP {F : Func} {c : Code} {args : List Value} (N : Nat) (hf : P.funcs[f]? = some F) (hb : F.body = some c) (hN : F.ntmps = N) (hle : Nat.ble args.length N = true)
  (h : ∀ cs, Run P (frameOf f) cs (finP P f cs R Q) N [.code c] (env0 args) [] w) : Cp P f args.toArray w R Q := by
 have ha : args.length ≤ N := Nat.le_of_ble_eq_true hle
 intro cs
 obtain ⟨m, hs, e, w', fr, rfl, hR, hfn, hl⟩ := h cs
 have henter : Frame.enter P f args.toArray .normal = (frameOf f).atR (mkA N (env0 args) []) [.code c] := by
  have ht : args.toArray ++ Array.replicate (N - args.toArray.size) undef = Array.ofFn (n := N) fun i => env0 args i := by
   apply Array.ext
   ·simp; omega
   intro i h1 h2
   simp only [Array.size_ofFn] at h2
   rw [Array.getElem_append]
   simp only [Array.getElem_ofFn, env0]
   by_cases hi : i < args.length
   ·simp [hi]
   simp [hi]
  simp [Frame.enter, Frame.atR, hf, hb, hN, frameOf, mkA, ← ht]
 refine ⟨e, w', fr, hR, ?_, hfn, hl⟩
 rw [henter]
 rcases hR with ⟨v, rfl, _⟩ | ⟨v, rfl, _⟩
 ·exact hs
 exact hs
end

section
variable {P : Program} {f : FuncId} {cs : List Frame} {R Q : Value → World → Prop} {N : Nat} {k : List Item} {ρ : Env} {w : World} {F : Func} {rs : List ResultVar}
theorem p_ret (vs : List Value) (hf : P.funcs[f]? = some F) (hr : F.results = rs.toArray) (hv : Res P N ρ w rs vs) (hR : R (packed vs) w) :
  Run P (frameOf f) cs (finP P f cs R Q) N (.code .ret :: k) ρ [] w :=
 ⟨_, .one (stepR_ret rfl), _, w, _, rfl, .inl ⟨_, rfl, hR⟩, rfl, rfl, rfl, rfl, F, hf, results_run (ds := []) hr hv⟩
theorem p_end (vs : List Value) (hf : P.funcs[f]? = some F) (hr : F.results = rs.toArray) (hv : Res P N ρ w rs vs) (hR : R (packed vs) w) :
  Run P (frameOf f) cs (finP P f cs R Q) N [] ρ [] w :=
 ⟨_, .one (stepR_end rfl), _, w, _, rfl, .inl ⟨_, rfl, hR⟩, rfl, rfl, rfl, rfl, F, hf, results_run (ds := []) hr hv⟩
end

def LeaveU (P : Program) (b : Frame) (cs : List Frame) (fin : Machine → Prop) (n : Nat) (k : List Item) (ρ : Env) (ds : List Deferred) (u : FrameMode) (w : World) : Prop :=
 ∃ m, Steps P (lone { b.atR (mkA n ρ ds) k with mode := u } cs w) m ∧ fin m

def Dl (P : Program) (f : FuncId) (args : Array Value) (u : FrameMode) (w : World) (R : FrameMode → World → Prop) : Prop :=
 CallsD P f args u w fun e u' w' => ∃ v, e = .returned v ∧ R u' w'

section
variable {P : Program} {b : Frame} {cs : List Frame} {fin : Machine → Prop} {n : Nat} {all : Array Oper} {rest : List Oper} {k : List Item} {ρ : Env} {ds : List Deferred} {w w' : World} {f : FuncId} {R Q : Value → World → Prop}
 {ty : TypeId} {pos : String} {af : Array Edge} {g : Option (Nat × Bool)} {x : Operand} {F : Func}

theorem r_retU (hb : b.roundOf = none) (h : LeaveU P b cs fin n (.code .ret :: k) ρ ds .returning w) : Run P b cs fin n (.code .ret :: k) ρ ds w := r_retL hb h
theorem leaveU_done {rs : List ResultVar} (vs : List Value) (hf : P.funcs[f]? = some F) (hr : F.results = rs.toArray) (hv : Res P n ρ w rs vs) (hR : R (packed vs) w) :
  LeaveU P (frameOf f) cs (finRet P f cs R) n k ρ [] .returning w := leave_done vs hf hr hv hR
theorem leaveU_panic {v : Value} (hf : P.funcs[f]? = some F) (hQ : Q v w) : LeaveU P (frameOf f) cs (finP P f cs R Q) n k ρ [] (.panicking [pentry v]) w :=
 ⟨_, .refl _ _, _, w, _, rfl, .inr ⟨v, rfl, hQ⟩, rfl, rfl, rfl, F, hf⟩

theorem l_halt {o : Oper} {v : Value} (hg : gOk all n ρ o.guard = true) (hnd : ∀ c, o.op ≠ .defer c) (hr : (execOp (ev n ρ) o).run P w = .halt (.panic v) w')
  (h : ∀ k', LeaveU P b cs fin n k' ρ ds (.panicking [pentry v]) w') : RunL P b cs fin n all (o :: rest) k ρ ds w := by
 intro is his
 obtain ⟨i, is', rfl, ho, his'⟩ := is_cons his
 obtain ⟨m, h1, h2⟩ := h (.inRegion all (i :: is') :: k)
 refine ⟨m, .head (step_lone_go ?_) h1, h2⟩
 rw [stepGR_op ho (by rw [wanted_gOk]; exact hg), Oper.semAt_eq _ _ _ hnd, mkA_eval]
 simp [stepG.apply, hr, Frame.raise, Frame.atR]
theorem l_panic {t : TypeId} {y : Value} (hg : gOk all n ρ g = true) (hx : ev n ρ x = .iface t y) (h : ∀ k', LeaveU P b cs fin n k' ρ ds (.panicking [pentry (.iface t y)]) w) {d' : Option Nat} :
  RunL P b cs fin n all (⟨d', .panic x, ty, pos, af, g⟩ :: rest) k ρ ds w :=
 l_halt hg nofun (by simp [execOp, hx, Instr.panic, goPanic, Sem.run]) h

theorem l_enterP {o : Oper} {fc : FuncId} {args : Array Value} (hg : gOk all n ρ o.guard = true) (hnd : ∀ c, o.op ≠ .defer c) (hr : (execOp (ev n ρ) o).run P w = .ok (.enter fc args) w') (hc : Cp P fc args w' R Q)
  (h : ∀ v w'', R v w'' → RunL P b cs fin n all rest k (updO o.dst v ρ) ds w'') (hp : ∀ v w'' k', Q v w'' → LeaveU P b cs fin n k' ρ ds (.panicking [pentry v]) w'') : RunL P b cs fin n all (o :: rest) k ρ ds w := by
 intro is his
 obtain ⟨i, is', rfl, ho, his'⟩ := is_cons his
 obtain ⟨e, w'', fr, hRQ, hs, _, hl⟩ := hc (b.atR (mkA n ρ ds) (.inRegion all (i :: is') :: k) :: cs)
 have hent : step P (lone (b.atR (mkA n ρ ds) (.inRegion all (i :: is') :: k)) cs w) = .next (lone (Frame.enter P fc args .normal) (b.atR (mkA n ρ ds) (.inRegion all (i :: is') :: k) :: cs) w') := by
  refine step_lone_go ?_
  rw [stepGR_op ho (by rw [wanted_gOk]; exact hg), Oper.semAt_eq _ _ _ hnd, mkA_eval]
  simp [stepG.apply, hr, Frame.atR]
 rcases hRQ with ⟨v, rfl, hR⟩ | ⟨v, rfl, hQ⟩
 ·obtain ⟨m, hm', hf⟩ := h v w'' hR is' his'
  refine ⟨m, .head hent (Steps.trans hs (.head (step_leave_returned hl) ?_)), hf⟩
  rw [finish_mkA ho]
  exact hm'
 obtain ⟨m, hm', hf⟩ := hp v w'' (.inRegion all (i :: is') :: k) hQ
 refine ⟨m, .head hent (Steps.trans hs (.head (step_leave_panicked hl) ?_)), hf⟩
 have e : (b.atR (mkA n ρ ds) (.inRegion all (i :: is') :: k)).raise [pentry v] = { b.atR (mkA n ρ ds) (.inRegion all (i :: is') :: k) with mode := .panicking [pentry v] } := by
  simp [Frame.raise, Frame.atR]
 rw [e]
 exact hm'

theorem l_defer {Fo : Operand} {as : List Operand} {ts : Array TypeId} {gf : FuncId} (first cap vals : List Value) {d' : Option Nat} (hro : b.roundOf = none) (hg : gOk all n ρ g = true) (hF : ev n ρ Fo = .func (.func gf) first.toArray cap.toArray) (ha : first ++ as.map (ev n ρ) = vals)
  (h : RunL P b cs fin n all rest k (updO d' undef ρ) ({ target := .fn (.func gf) cap.toArray, args := vals.toArray } :: ds) w) :
  RunL P b cs fin n all (⟨d', .defer ⟨.value Fo, as.toArray, ts⟩, ty, pos, af, g⟩ :: rest) k ρ ds w := by
 subst ha
 intro is his
 obtain ⟨i, is', rfl, ho, his'⟩ := is_cons his
 obtain ⟨m, h1, h2⟩ := h is' his'
 refine ⟨m, .head (step_lone_go ?_) h1, h2⟩
 rw [stepGR_op ho (by rw [wanted_gOk]; exact hg), hro, Oper.semAt_none, mkA_eval]
 have hr : (execOp (ev n ρ) ⟨d', .defer ⟨.value Fo, as.toArray, ts⟩, ty, pos, af, g⟩).run P w = .ok (.defer { target := .fn (.func gf) cap.toArray, args := (first ++ as.map (ev n ρ)).toArray }) w := by
  simp [execOp, resolve, hF, Deferred.ofValue]
 have e2 := finish_mkA (b := b) (n := n) (all := all) (k := k) (ρ := ρ) (ds := { target := .fn (.func gf) cap.toArray, args := (first ++ as.map (ev n ρ)).toArray } :: ds) (i := i) (is' := is') ho undef
 simp only at e2
 rw [← e2]
 simp [stepG.apply, hr]
 rfl

theorem leave_defer {d : Deferred} {gf : FuncId} {cap : Array Value} {u : FrameMode} (hd : d.target = .fn (.func gf) cap) (he : ∀ args w, (callFunc gf args).run P w = .ok (.enter gf args) w) (hu : u ≠ .run)
  (h : Dl P gf (d.args ++ cap) u w fun u' w' => LeaveU P b cs fin n k ρ ds (settle u') w') : LeaveU P b cs fin n k ρ (d :: ds) u w := by
 have hi : (invoke d.target d.args).run P w = .ok (.enter gf (d.args ++ cap)) w := by rw [hd]; simp only [invoke, he]
 have h1 := step_defer (P := P) (fr := { b.atR (mkA n ρ (d :: ds)) k with mode := u }) (cs := cs) (w := w) (d := d) (ds := ds) hu rfl hd hi
 obtain ⟨e, u', w', fr, ⟨v, rfl, m, h2, h3⟩, hs, hk, hgo⟩ := h { b.atR (mkA n ρ ds) k with mode := u } cs rfl
 refine ⟨m, .head h1 (Steps.trans hs (.head (step_going_returned (c := { b.atR (mkA n ρ ds) k with mode := u' }) hk hgo) ?_)), h3⟩
 exact h2
end

def frameD (f : FuncId) : Frame := { (default : Frame) with fn := f, kind := .deferred, roundOf := none }
def finD (P : Program) (_f : FuncId) (c : Frame) (cs : List Frame) (R : FrameMode → World → Prop) : Machine → Prop := fun m =>
 ∃ v u' w' fr, m = lone fr ({ c with mode := u' } :: cs) w' ∧ R u' w' ∧ fr.kind = .deferred ∧ fr.going P w' (.returned v)
section
variable {P : Program} {f : FuncId} {w : World} {R : FrameMode → World → Prop} {u : FrameMode}
theorem dl_of_run {F : Func} {c : Code} {args : List Value} (N : Nat) (hf : P.funcs[f]? = some F) (hb : F.body = some c) (hN : F.ntmps = N) (hle : Nat.ble args.length N = true)
  (h : ∀ c0 cs, c0.mode = u → Run P (frameD f) (c0 :: cs) (finD P f c0 cs R) N [.code c] (env0 args) [] w) : Dl P f args.toArray u w R := by
 have ha : args.length ≤ N := Nat.le_of_ble_eq_true hle
 intro c0 cs hc
 obtain ⟨m, hs, v, u', w', fr, rfl, hR, hk, hl⟩ := h c0 cs hc
 have henter : Frame.enter P f args.toArray .deferred = (frameD f).atR (mkA N (env0 args) []) [.code c] := by
  have ht : args.toArray ++ Array.replicate (N - args.toArray.size) undef = Array.ofFn (n := N) fun i => env0 args i := by
   apply Array.ext
   ·simp; omega
   intro i h1 h2
   simp only [Array.size_ofFn] at h2
   rw [Array.getElem_append]
   simp only [Array.getElem_ofFn, env0]
   by_cases hi : i < args.length
   ·simp [hi]
   simp [hi]
  simp [Frame.enter, Frame.atR, hf, hb, hN, frameD, mkA, ← ht]
 refine ⟨.returned v, u', w', fr, ⟨v, rfl, hR⟩, ?_, hk, hl⟩
 rw [henter]
 exact hs
end
section
variable {P : Program} {f : FuncId} {c0 : Frame} {cs : List Frame} {R : FrameMode → World → Prop} {N : Nat} {k : List Item} {ρ : Env} {w : World} {F : Func} {rs : List ResultVar} {u : FrameMode}
theorem d_end (vs : List Value) (hf : P.funcs[f]? = some F) (hr : F.results = rs.toArray) (hv : Res P N ρ w rs vs) (hR : R u w) :
  Run P (frameD f) ({ c0 with mode := u } :: cs) (finD P f c0 cs R) N [] ρ [] w :=
 ⟨_, .one (stepR_end rfl), _, u, w, _, rfl, hR, rfl, rfl, rfl, F, hf, results_run (ds := []) hr hv⟩
theorem d_same {b : Frame} {fin : Machine → Prop} {n : Nat} {ds : List Deferred} (hc : c0.mode = u) (h : Run P b ({ c0 with mode := u } :: cs) fin n k ρ ds w) : Run P b (c0 :: cs) fin n k ρ ds w := by
 have e : ({ c0 with mode := u } : Frame) = c0 := by subst hc; rfl
 rwa [e] at h
variable {fin : Machine → Prop} {n : Nat} {all : Array Oper} {rest : List Oper} {ds : List Deferred} {d : Nat} {ts : Array TypeId} {ty : TypeId} {pos : String} {af : Array Edge} {g : Option (Nat × Bool)}
theorem l_recover {v : Value} (hg : gOk all n ρ g = true) (h : RunL P (frameD f) ({ c0 with mode := .panicking [pdone v] } :: cs) fin n all rest k (upd ρ d v) ds w) :
  RunL P (frameD f) ({ c0 with mode := .panicking [pentry v] } :: cs) fin n all (⟨some d, .call ⟨.builtin .recover, #[], ts⟩, ty, pos, af, g⟩ :: rest) k ρ ds w := by
 intro is his
 obtain ⟨i, is', rfl, ho, his'⟩ := is_cons his
 obtain ⟨m, h1, h2⟩ := h is' his'
 refine ⟨m, .head (step_lone_go ?_) h1, h2⟩
 rw [stepGR_op ho (by rw [wanted_gOk]; exact hg), show (frameD f).roundOf = none from rfl, Oper.semAt_none, mkA_eval]
 have hr : (execOp (ev n ρ) ⟨some d, .call ⟨.builtin .recover, #[], ts⟩, ty, pos, af, g⟩).run P w = .ok .recover w := by
  simp [execOp, resolve, invoke, builtin]
 have e2 := finish_mkA (b := frameD f) (n := n) (all := all) (k := k) (ρ := ρ) (ds := ds) (i := i) (is' := is') ho v
 simp only [updO] at e2
 rw [← e2]
 simp [stepG.apply, hr]
 rfl
theorem l_recover0 (hg : gOk all n ρ g = true) (h : RunL P (frameD f) ({ c0 with mode := .returning } :: cs) fin n all rest k (upd ρ d .nilIface) ds w) :
  RunL P (frameD f) ({ c0 with mode := .returning } :: cs) fin n all (⟨some d, .call ⟨.builtin .recover, #[], ts⟩, ty, pos, af, g⟩ :: rest) k ρ ds w := by
 intro is his
 obtain ⟨i, is', rfl, ho, his'⟩ := is_cons his
 obtain ⟨m, h1, h2⟩ := h is' his'
 refine ⟨m, .head (step_lone_go ?_) h1, h2⟩
 rw [stepGR_op ho (by rw [wanted_gOk]; exact hg), show (frameD f).roundOf = none from rfl, Oper.semAt_none, mkA_eval]
 have hr : (execOp (ev n ρ) ⟨some d, .call ⟨.builtin .recover, #[], ts⟩, ty, pos, af, g⟩).run P w = .ok .recover w := by
  simp [execOp, resolve, invoke, builtin]
 have e2 := finish_mkA (b := frameD f) (n := n) (all := all) (k := k) (ρ := ρ) (ds := ds) (i := i) (is' := is') ho .nilIface
 simp only [updO] at e2
 rw [← e2]
 simp [stepG.apply, hr]
 rfl
end
end Go.Vk

namespace Go.Vk
open Go

section
variable {P : Program} {b : Frame} {cs : List Frame} {fin : Machine → Prop} {n : Nat} {k : List Item} {ρ : Env} {ds : List Deferred} {w : World}

theorem r_loopD {G : Type} (μ : G → Nat) (slots : G → List (Nat × Value)) (I : G → World → Prop) (dd : G → List Deferred) {c : Code} (g : G) (ha : Agree ρ (slots g)) (hI : I g w) (hd : ds = dd g)
  (round : ∀ g ρ w, I g w → (∀ g' ρ' w' ds', μ g' < μ g → Agree ρ' (slots g') → I g' w' → ds' = dd g' → Run P b cs fin n (.inLoop c :: k) ρ' ds' w') →
   Run P b cs fin n (.code c :: .inLoop c :: k) (upds ρ (slots g)) (dd g) w) :
  Run P b cs fin n (.code (.loop c) :: k) ρ ds w := by
 subst hd
 have key : ∀ N g ρ w, μ g = N → Agree ρ (slots g) → I g w → Run P b cs fin n (.inLoop c :: k) ρ (dd g) w := by
  intro N
  induction N using Nat.strongRecOn with
  | _ N ih =>
   intro g ρ w hN ha hI
   refine r_inLoop0 ?_
   have := round g ρ w hI fun g' ρ' w' ds' hlt ha' hI' hd' => by subst hd'; exact ih _ (hN ▸ hlt) g' ρ' w' rfl ha' hI'
   rwa [upds_agree ha] at this
 have h := key _ g ρ w rfl ha hI
 refine r_loop0 ?_
 obtain ⟨m, hs, hf⟩ := h
 obtain ⟨j, hj⟩ := hs
 cases j with
 | zero =>
  have := round g ρ w hI fun g' ρ' w' ds' _ ha' hI' hd' => by subst hd'; exact key _ g' ρ' w' rfl ha' hI'
  rwa [upds_agree ha] at this
 | succ j =>
  have := round g ρ w hI fun g' ρ' w' ds' _ ha' hI' hd' => by subst hd'; exact key _ g' ρ' w' rfl ha' hI'
  rwa [upds_agree ha] at this
end

def marksR (Ds : List Nat) : Rsc := pack (Ds.map fun D => obj D (.deferred (some [])))

section
variable {X : Nat → Prop} {w0 w : World} {A M : List Rsc} {r : Rsc} {D : Nat} {Ds : List Nat}

theorem Own.nopack (S : Own X w0 w A) : Own X w0 w (A ++ [marksR []]) := by
 refine S.add (Le.refl w) ⟨⟨fun r hr => (by cases hr), fun j k r s hr => (by simp at hr)⟩, fun b hb => ?_⟩
 obtain ⟨r, hr, _⟩ := hb
 cases hr
theorem Own.mcons (S : Own X w0 w (A ++ [Vk.obj D (.deferred (some [])), marksR Ds])) : Own X w0 w (A ++ [marksR (D :: Ds)]) := by
 have S1 : Own X w0 w ((A ++ [Vk.obj D (.deferred (some []))]) ++ [Vk.pack (Ds.map fun D => Vk.obj D (.deferred (some [])))]) := by rw [List.append_assoc]; exact S
 have S2 := S1.unpack
 rw [List.append_assoc] at S2
 exact S2.pack (A := A)
theorem Own.drop1 (S : Own X w0 w (A ++ r :: M)) : Own X w0 w (A ++ M) := by
 refine S.perm ((List.range (A.length + M.length)).map fun k => if k < A.length then k else k + 1) ?_ fun k s hs => ?_
 ·refine List.Pairwise.map _ (fun a b h => ?_) List.nodup_range
  intro e
  split at e <;> split at e <;> omega
 have hk : k < A.length + M.length := by have := (List.getElem?_eq_some_iff.1 hs).1; simpa using this
 refine ⟨if k < A.length then k else k + 1, by simp [hk], ?_⟩
 split
 ·rename_i h; rw [List.getElem?_append_left h] at hs ⊢; exact hs
 rename_i h
 rw [List.getElem?_append_right (by omega)] at hs ⊢
 have e : k + 1 - A.length = (k - A.length) + 1 := by omega
 rw [e, List.getElem?_cons_succ]; exact hs
end

section
variable {P : Program} {b : Frame} {cs : List Frame} {fin : Machine → Prop} {n : Nat} {k : List Item} {ρ : Env} {ds : List Deferred} {X : Nat → Prop} {w0 : World} {A : List Rsc}

theorem leave_marks : ∀ (Ds : List Nat) {w : World}, Own X w0 w (A ++ [marksR Ds]) → (∀ w', Own X w0 w' A → Leave P b cs fin n k ρ ds w') → Leave P b cs fin n k ρ (Ds.map mark ++ ds) w := by
 intro Ds
 induction Ds with
 | nil => intro w S h; exact h w (by have := S.take A.length; rwa [List.take_left] at this)
 | cons D Ds ih =>
  intro w S h
  have S1 : Own X w0 w (A ++ (obj D (.deferred (some [])) :: Ds.map fun D => obj D (.deferred (some [])))) := Own.unpack (A := A) S
  refine leave_mark S1 A.length (by simp) fun w' S2 _ => ?_
  rw [List.set_append_right _ _ (Nat.le_refl _), Nat.sub_self, List.set_cons_zero] at S2
  exact ih (Own.pack (A := A) (S2.drop1)) h
end
end Go.Vk

namespace Go.Vk
open Go
def TailR {α : Type} (E : Elt α) (v v' : Value) (p : Nat) : Prop :=
 ∃ a n cap, v = .slice a n cap ∧ p ≤ n ∧ n ≤ cap ∧ v' = .slice (if cap = p then a else a.map fun x => x.add (p * E.sz)) (n - p) (cap - p)
theorem tailR_rd {α : Type} {E : Elt α} {v v' : Value} {p : Nat} {w : World} {l : List α} (ht : TailR E v v' p) (h : Rd E w v l) : Rd E w v' (l.drop p) := by
 obtain ⟨a, n, cap, rfl, h1, h2, rfl⟩ := ht
 obtain ⟨a2, cap2, hv, hc, hrow⟩ := h
 simp only [Value.slice.injEq] at hv
 obtain ⟨rfl, rfl, rfl⟩ := hv
 refine ⟨_, _, by rw [List.length_drop], by rw [List.length_drop]; omega, fun i c hi => ?_⟩
 rw [List.getElem?_drop] at hi
 obtain ⟨b2, o2, rfl, hr⟩ := hrow _ c hi
 have hil := (List.getElem?_eq_some_iff.1 hi).1
 refine ⟨b2, o2 + p * E.sz, ?_, ?_⟩
 ·rw [if_neg (by omega)]; simp [addr_add]
 have e : o2 + p * E.sz + i * E.sz = o2 + (p + i) * E.sz := by rw [Nat.add_mul]; omega
 rw [e]; exact hr
section
variable {P : Program} {b : Frame} {cs : List Frame} {fin : Machine → Prop} {n : Nat} {k : List Item} {ρ : Env} {ds : List Deferred} {w : World} {all : Array Oper} {rest : List Oper}
 {d : Nat} {ty : TypeId} {pos : String} {af : Array Edge} {g : Option (Nat × Bool)} {v : Value} {T : TypeId} {x z : Operand} {α : Type} {E : Elt α} {l : List α} {p : Int}
theorem l_tailR (hr : Rd E w v l) (hg : gOk all n ρ g = true) (hx : ev n ρ x = v) (hz : ev n ρ z = .int .i64 p)
  (hu : ∀ w, (underlying T).run P w = .ok (.slice E.T) w) (hs : ∀ w, (sizeOf E.T).run P w = .ok E.sz w) (hq : 0 ≤ p ∧ p ≤ l.length)
  (h : ∀ v', TailR E v v' p.toNat → RunL P b cs fin n all rest k (upd ρ d v') ds w) :
  RunL P b cs fin n all (⟨some d, .slice T x (some z) none none, ty, pos, af, g⟩ :: rest) k ρ ds w := by
 obtain ⟨a, cap, rfl, hc, hrow⟩ := hr
 refine l_x hg (x_cut hx hu hs (p := p) (q := l.length) (by simp [hz]) rfl (by omega) hc) (h _ ⟨a, l.length, cap, rfl, by omega, hc, ?_⟩)
 simp
end
end Go.Vk

namespace Go.Vk
open Go Go.RowKit
def undrawn (w : World) : World := { w with drawn := 0 }
def Bl (w w' : World) : Prop := Le (undrawn w) w'
section
variable {w w' w'' : World} {X : Nat → Prop} {w0 : World} {L : List Rsc}
theorem Le.bl (h : Le w w') : Bl w w' := ⟨h.os, h.tape, h.output, h.size, h.block, Nat.zero_le _⟩
theorem Bl.refl (w : World) : Bl w w := (Le.refl w).bl
theorem Bl.trans (h : Bl w w') (h' : Bl w' w'') : Bl w w'' :=
  ⟨h'.os.trans h.os, h'.tape.trans h.tape, h'.output.trans h.output, Nat.le_trans h.size h'.size,
   fun b hb hx => (h'.block b (Nat.lt_of_lt_of_le hb h.size) hx).trans (h.block b hb hx), Nat.zero_le _⟩
theorem Bl.of_below {w w' : World} (h : Below w.heap.size w w') : Bl w w' := ⟨h.os, h.tape, h.output, h.size, fun b hb _ => h.block b hb, Nat.zero_le _⟩
theorem Bl.below (h : Bl w w') : Below w.heap.size w w' := ⟨h.os, h.tape, h.output, h.size, fun b hb => h.block b hb id⟩
theorem Bl.lift {w0 : World} (h0 : Keep X (undrawn w0) w) (h : Bl w w') : Keep X (undrawn w0) w' :=
  ⟨h.os.trans h0.os, h.tape.trans h0.tape, h.output.trans h0.output, Nat.le_trans h0.size h.size,
   fun b hb hx => (h.block b (Nat.lt_of_lt_of_le hb h0.size) id).trans (h0.block b hb hx), Nat.zero_le _⟩
theorem Own.startZ (w : World) : Own X (undrawn w) w [] := ⟨⟨rfl, rfl, rfl, Nat.le_refl _, fun _ _ _ => rfl, Nat.zero_le _⟩, fun _ _ h => by simp at h, fun _ _ h => by simp at h, fun _ _ _ _ h => by simp at h⟩
theorem Own.stepZ (S : Own X (undrawn w0) w L) (h : Bl w w') : Own X (undrawn w0) w' L :=
  ⟨h.lift S.keep, fun k r hr => r.st (w := w) (w' := w') (fun b hb => h.block b (S.bd k r hr b hb).1 id) (S.ok k r hr),
   fun k r hr b hb => ⟨Nat.lt_of_lt_of_le (S.bd k r hr b hb).1 h.size, (S.bd k r hr b hb).2⟩, S.dj⟩
theorem cell_bl {a : Addr} {v : Value} (h : w.cell? a = some v) (hk : Bl w w') : w'.cell? a = some v :=
 cell_keep (w := undrawn w) (by exact h) hk id
end
section
variable {P : Program} {b : Frame} {cs : List Frame} {fin : Machine → Prop} {n : Nat} {k : List Item} {ρ : Env} {ds : List Deferred} {w w' : World} {ops : Array Oper} {m : Nat}
def AnyZ (P : Program) (n : Nat) (ops : Array Oper) (m : Nat) (K : Env → World → Prop) : Nat → Array Bool → Env → World → Prop
 | 0, listed, ρ, w => ∀ w1, Bl w w1 → ((∀ i, i < m → listed.getD i true = true) → K ρ w1) ∧ ∀ (i : Nat), i < m → rdy ops listed i = false
 | f + 1, listed, ρ, w => ∀ w1, Bl w w1 → ((∀ i, i < m → listed.getD i true = true) → K ρ w1) ∧ ∀ (i : Nat) (o : Oper), i < m → ops[i]? = some o → rdy ops listed i = true →
   Sp P ops n ρ o w1 fun v w2 => Bl w1 w2 ∧ AnyZ P n ops m K f (listed.setIfInBounds i true) (updO o.dst v ρ) w2

theorem AnyZ.le {K : Env → World → Prop} {f : Nat} {listed : Array Bool} (h : AnyZ P n ops m K f listed ρ w) (hw : Bl w w') : AnyZ P n ops m K f listed ρ w' := by
 cases f with
 | zero => exact fun w'' h' => h w'' (hw.trans h')
 | succ f => exact fun w1 h1 => h w1 (hw.trans h1)

theorem AnyZ.done {K : Env → World → Prop} {f : Nat} {listed : Array Bool} (h : AnyZ P n ops m K f listed ρ w) (hl : ∀ i, i < m → listed.getD i true = true) : K ρ w := by
 cases f with
 | zero => exact (h w (Bl.refl w)).1 hl
 | succ f => exact (h w (Bl.refl w)).1 hl

theorem AnyZ.next {K : Env → World → Prop} {f : Nat} {listed : Array Bool} {i : Nat} {o : Oper} (h : AnyZ P n ops m K f listed ρ w) (hi : i < m) (ho : ops[i]? = some o) (hr : rdy ops listed i = true) :
  ∃ g, Sp P ops n ρ o w fun v w2 => Bl w w2 ∧ AnyZ P n ops m K g (listed.setIfInBounds i true) (updO o.dst v ρ) w2 := by
 cases f with
 | zero => have := (h w (Bl.refl w)).2 i hi; rw [hr] at this; cases this
 | succ f => exact ⟨f, (h w (Bl.refl w)).2 i o hi ho hr⟩

def RigidZ (P : Program) (ops : Array Oper) (n : Nat) (ρ : Env) (o : Oper) (w : World) (v : Value) : Prop := ∀ w1, Bl w w1 → Sp P ops n ρ o w1 fun u w2 => u = v ∧ Bl w1 w2

theorem RigidZ.le {o : Oper} {v : Value} (h : RigidZ P ops n ρ o w v) (hw : Bl w w') : RigidZ P ops n ρ o w' v := fun w1 h1 => h w1 (hw.trans h1)

theorem AnyZ.first {K : Env → World → Prop} {i : Nat} {oi : Oper} {v : Value} (hok : DrawOk ops m) (hi : ops[i]? = some oi) (him : i < m) :
  ∀ (f : Nat) (listed : Array Bool) (ρ : Env) (w : World), rdy ops listed i = true → RigidZ P ops n ρ oi w v →
   AnyZ P n ops m K f (listed.setIfInBounds i true) (updO oi.dst v ρ) w → AnyZ P n ops m K (f + 1) listed ρ w := by
 intro f
 induction f with
 | zero =>
  intro listed ρ w hr hy H w1 h1
  refine ⟨fun hl => ?_, fun j oj hjm hj hrj => ?_⟩
  ·have := (rdy_spec hr).1; rw [hl i him] at this; cases this
  by_cases e : j = i
  ·subst e
   have : oj = oi := Option.some.inj (hj.symm.trans hi)
   subst this
   exact (hy w1 h1).mono fun u w2 ⟨hu, h2⟩ => ⟨h2, hu ▸ AnyZ.le (f := 0) H (h1.trans h2)⟩
  have := (H w (Bl.refl w)).2 j hjm
  rw [rdy_other e hrj] at this
  cases this
 | succ f ih =>
  intro listed ρ w hr hy H w1 h1
  refine ⟨fun hl => ?_, fun j oj hjm hj hrj => ?_⟩
  ·have := (rdy_spec hr).1; rw [hl i him] at this; cases this
  by_cases e : j = i
  ·subst e
   have : oj = oi := Option.some.inj (hj.symm.trans hi)
   subst this
   exact (hy w1 h1).mono fun u w2 ⟨hu, h2⟩ => ⟨h2, hu ▸ AnyZ.le (f := f + 1) H (h1.trans h2)⟩
  have h2 := (H w1 h1).2 j oj hjm hj (rdy_other e hrj)
  have hap : apartB ops oi oj = true := by
   rcases hok.apart i j oi oj him hjm (Ne.symm e) hi hj with h | h | h
   ·obtain ⟨_, o', ho', hw'⟩ := rdy_spec hrj
    have : o' = oj := Option.some.inj (ho'.symm.trans hj)
    subst this
    have := hw' i h
    rw [getD_both (rdy_spec hr).1] at this; cases this
   ·obtain ⟨_, o', ho', hw'⟩ := rdy_spec hr
    have : o' = oi := Option.some.inj (ho'.symm.trans hi)
    subst this
    have := hw' j h
    rw [getD_both (rdy_spec hrj).1] at this; cases this
   exact h
  obtain ⟨a1, a2, a3⟩ := apartB_spec hap
  rw [Sp.congr (not_sel (hok.sel j oj hj)) a1] at h2
  refine h2.mono fun u w2 ⟨h3, h4⟩ => ⟨h3, ?_⟩
  refine ih (listed.setIfInBounds j true) (updO oj.dst u ρ) w2 (rdy_other (Ne.symm e) hr) (fun w3 h5 => ?_) ?_
  ·rw [Sp.congr (not_sel (hok.sel i oi hi)) a3]
   exact hy w3 (h1.trans (h3.trans h5))
  rw [Array.setIfInBounds_comm _ _ e, ← updO_comm ρ v u a2]
  exact h4


theorem any_runZ (hok : DrawOk ops m) {K : Env → World → Prop} (hK : ∀ ρ w, K ρ w → RunL P b cs fin n ops (ops.toList.drop m) k ρ ds w) :
  ∀ (fuel f t : Nat) (listed : Array Bool) (ρ : Env) (w : World), AnyZ P n ops m K f listed ρ w → Inv ops m listed → (∀ i, m ≤ i → i < ops.size → listed.getD i true = false) →
   ops.size - fuel ≤ ((List.range m).filter fun i => listed.getD i true).length →
   Run P b cs fin n (.inRegion ops (Region.linearise.go .any ops fuel t listed []) :: k) ρ ds w :=
 any_run' hok (fun _ _ _ _ h hl => h.done hl) (fun _ _ _ _ _ _ h hi ho hr => let ⟨g, hs⟩ := h.next hi ho hr; ⟨g, hs.mono fun _ _ h => h.2⟩) hK

theorem r_drawZ0 {id : Nat} (m : Nat) (hmo : P.follows .mixedOrders = true) (hok : drawOk ops m = true) {K : Env → World → Prop} (f : Nat)
  (h : AnyZ P n ops m K f (Array.replicate ops.size false) ρ w) (hK : ∀ ρ w, K ρ w → RunL P b cs fin n ops (ops.toList.drop m) k ρ ds w) :
  Run P b cs fin n (.code (.region id ops true) :: k) ρ ds w := by
 refine Run.of_step stepR_region_draw ?_
 have hok := drawOk_spec hok
 have := any_runZ (b := b) (cs := cs) (fin := fin) (k := k) (ds := ds) hok hK ops.size f (w.tape w.drawn (.order b.fn id)) (Array.replicate ops.size false) ρ { w with drawn := w.drawn + 1 } (h.le (Le.drew w).bl)
  ⟨by simp, fun j o ho hj => by
   have : j < ops.size := (Array.getElem?_eq_some_iff.1 ho).1
   simp [this] at hj⟩ (fun i _ hi => by simp [hi]) (by omega)
 simp only [Region.schedule, hmo, Bool.true_or, if_true, Region.linearise]
 exact this


def RWZ (P : Program) (ops : Array Oper) (n : Nat) (w : World) (K : Env → Prop) : List Oper → Env → Prop
 | [], ρ => K ρ
 | o :: rest, ρ => ∃ v, RigidZ P ops n ρ o w v ∧ RWZ P ops n w K rest (updO o.dst v ρ)

theorem anyZ_of_RWZ {K : Env → World → Prop} (hok : DrawOk ops m) : ∀ (l : List Oper) (i : Nat) (listed : Array Bool) (ρ : Env), i + l.length = m → (∀ j, l[j]? = if i + j < m then ops[i + j]? else none) →
  listed.size = ops.size → (∀ j, j < i → listed.getD j true = true) → (∀ j, i ≤ j → j < ops.size → listed.getD j true = false) → RWZ P ops n w (fun ρ => ∀ w', Bl w w' → K ρ w') l ρ →
  AnyZ P n ops m K l.length listed ρ w := by
 intro l
 induction l with
 | nil =>
  intro i listed ρ hi hl hs hlo hhi h w1 h1
  simp at hi
  subst hi
  exact ⟨fun _ => h w1 h1, fun j hj => by
   cases e : rdy ops listed j with
   | false => rfl
   | true => have := (rdy_spec e).1; rw [hlo j hj] at this; cases this⟩
 | cons o l ih =>
  intro i listed ρ hi hl hs hlo hhi h
  simp only [List.length_cons] at hi
  obtain ⟨v, hrig, h⟩ := h
  have him : i < m := by omega
  have his : i < ops.size := Nat.lt_of_lt_of_le him hok.le
  have ho : ops[i]? = some o := by
   have := hl 0; simpa [him] using this.symm
  have hr : rdy ops listed i = true := ready_first hok hs his (hhi i (Nat.le_refl _) his) hlo
  refine AnyZ.first hok ho him l.length listed ρ w hr hrig (ih (i + 1) _ _ (by omega) (fun j => ?_) (by simp [hs]) (fun j hj => ?_) (fun j h1 h2 => ?_) h)
  ·have := hl (j + 1)
   simpa [Nat.add_assoc, Nat.add_comm 1 j] using this
  ·by_cases e : i = j
   ·subst e; simp [hs, his]
   exact getD_set_mono (hlo j (by omega))
  rw [getD_set_other (by omega)]; exact hhi j (by omega) h2

theorem r_drawZ {id : Nat} (m : Nat) (hmo : P.follows .mixedOrders = true) (hok : drawOk ops m = true)
  (h : RWZ P ops n w (fun ρ => ∀ w', Bl w w' → RunL P b cs fin n ops (ops.toList.drop m) k ρ ds w') (ops.toList.take m) ρ) :
  Run P b cs fin n (.code (.region id ops true) :: k) ρ ds w := by
 have hok' := drawOk_spec hok
 have hle := hok'.le
 refine r_drawZ0 m hmo hok (K := fun ρ w => RunL P b cs fin n ops (ops.toList.drop m) k ρ ds w) (ops.toList.take m).length ?_ (fun _ _ h => h)
 refine anyZ_of_RWZ hok' (ops.toList.take m) 0 _ ρ (by simp; omega) (fun j => ?_) (by simp) (fun j hj => by omega) (fun j _ hj => by simp [hj]) h
 simp [List.getElem?_take]

variable {o : Oper} {rest : List Oper} {K : Env → Prop} {d : Nat} {op : Op} {ty : TypeId} {pos : String} {af : Array Edge} {g : Option (Nat × Bool)} {v : Value}

theorem z_nil (h : K ρ) : RWZ P ops n w K [] ρ := h
theorem z_x (hg : gOk ops n ρ g = true) (hx : ∀ w1, Bl w w1 → X P (ev n ρ) op ty w1 v w1) (h : RWZ P ops n w K rest (upd ρ d v)) : RWZ P ops n w K (⟨some d, op, ty, pos, af, g⟩ :: rest) ρ := by
 refine ⟨v, fun w1 h1 => ?_, h⟩
 unfold Sp
 rw [if_pos hg]
 exact ⟨(hx w1 h1).1, .inl ⟨v, w1, (hx w1 h1).2 .., rfl, Bl.refl _⟩⟩
theorem z_call (hg : gOk ops n ρ o.guard = true) (hnd : ∀ c, o.op ≠ .defer c) {f : FuncId} {args : Array Value} (hr : ∀ w, (execOp (ev n ρ) o).run P w = .ok (.enter f args) w)
  (hc : ∀ w1, Bl w w1 → Cl P f args w1 fun u w2 => u = v ∧ Bl w1 w2) (h : RWZ P ops n w K rest (updO o.dst v ρ)) : RWZ P ops n w K (o :: rest) ρ := by
 refine ⟨v, fun w1 h1 => ?_, h⟩
 unfold Sp
 rw [if_pos hg]
 exact ⟨hnd, .inr (.inl ⟨f, args, w1, hr w1, hc w1 h1⟩)⟩
end
section
variable {P : Program} {n : Nat} {all : Array Oper} {rest : List Oper} {ρ : Env} {w : World} {d' : Option Nat} {ty : TypeId} {pos : String} {af : Array Edge} {g : Option (Nat × Bool)} {v : Value}
theorem zd_call {K : Env → Prop} {F : Operand} {as : List Operand} {ts : Array TypeId} {f : FuncId} (first cap vals : List Value) (hg : gOk all n ρ g = true)
  (hF : ev n ρ F = .func (.func f) first.toArray cap.toArray) (he : ∀ args w, (callFunc f args).run P w = .ok (.enter f args) w) (ha : first ++ as.map (ev n ρ) ++ cap = vals)
  (hc : ∀ w1, Bl w w1 → Cl P f vals.toArray w1 fun u w2 => u = v ∧ Bl w1 w2) (h : RWZ P all n w K rest (updO d' v ρ)) :
  RWZ P all n w K (⟨d', .call ⟨.value F, as.toArray, ts⟩, ty, pos, af, g⟩ :: rest) ρ :=
 z_call hg nofun (fun _ => run_call hF he ha) hc h

end
end Go.Vk

namespace Go.Vk
open Go

def SpP (P : Program) (Q : Value → World → Prop) (all : Array Oper) (n : Nat) (ρ : Env) (o : Oper) (w : World) (Φ : Value → World → Prop) : Prop :=
 Sp P all n ρ o w Φ ∨ (gOk all n ρ o.guard = true ∧ (∀ c, o.op ≠ .defer c) ∧ ∃ f args w', (execOp (ev n ρ) o).run P w = .ok (.enter f args) w' ∧ Cp P f args w' Φ Q)
section
variable {P : Program} {Q : Value → World → Prop} {all : Array Oper} {n : Nat} {ρ : Env} {o : Oper} {w : World} {Φ Ψ : Value → World → Prop}
theorem SpP.of (h : Sp P all n ρ o w Φ) : SpP P Q all n ρ o w Φ := .inl h
theorem SpP.mono (h : SpP P Q all n ρ o w Φ) (hm : ∀ v w', Φ v w' → Ψ v w') : SpP P Q all n ρ o w Ψ :=
 h.imp (fun h => h.mono hm) fun ⟨h1, h2, f, args, w', h3, h4⟩ => ⟨h1, h2, f, args, w', h3, h4.mono hm fun _ _ h => h⟩
theorem SpP.congr {dst : Option Nat} {v : Value} (hs : ∀ cs b, o.op ≠ .select cs b) (hd : ∀ d, dst = some d → d ∉ looks all o) : SpP P Q all n (updO dst v ρ) o w Φ ↔ SpP P Q all n ρ o w Φ := by
 unfold SpP
 rw [Sp.congr hs hd, gOk_updO hd, exec_updO hs hd]
end
section
variable {P : Program} {b : Frame} {cs : List Frame} {fin : Machine → Prop} {n : Nat} {k : List Item} {ρ : Env} {ds : List Deferred} {w w' : World} {ops : Array Oper} {m : Nat} {G : World → World → Prop} {Q : Value → World → Prop}
theorem SpP.run {o : Oper} {i : Nat} {is : List Nat} {Φ : Value → World → Prop} (ho : ops[i]? = some o) (h : SpP P Q ops n ρ o w Φ) (hQ : ∀ v w k', Q v w → LeaveU P b cs fin n k' ρ ds (.panicking [pentry v]) w)
  (hn : ∀ v w', Φ v w' → Run P b cs fin n (.inRegion ops is :: k) (updO o.dst v ρ) ds w') : Run P b cs fin n (.inRegion ops (i :: is) :: k) ρ ds w := by
 rcases h with h | ⟨hg, hnd, f, args, w', hr, hc⟩
 ·exact h.run ho hn
 obtain ⟨e, w'', fr, hRQ, hs, _, hl⟩ := hc (b.atR (mkA n ρ ds) (.inRegion ops (i :: is) :: k) :: cs)
 have hent : step P (lone (b.atR (mkA n ρ ds) (.inRegion ops (i :: is) :: k)) cs w) = .next (lone (Frame.enter P f args .normal) (b.atR (mkA n ρ ds) (.inRegion ops (i :: is) :: k) :: cs) w') := by
  refine step_lone_go ?_
  rw [stepGR_op ho (by rw [wanted_gOk]; exact hg), Oper.semAt_eq _ _ _ hnd, mkA_eval]
  simp [stepG.apply, hr, Frame.atR]
 rcases hRQ with ⟨v, rfl, hR⟩ | ⟨v, rfl, hq⟩
 ·obtain ⟨m, hm', hf⟩ := hn v w'' hR
  refine ⟨m, .head hent (Steps.trans hs (.head (step_leave_returned hl) ?_)), hf⟩
  rw [finish_mkA ho]
  exact hm'
 obtain ⟨m, hm', hf⟩ := hQ v w'' (.inRegion ops (i :: is) :: k) hq
 refine ⟨m, .head hent (Steps.trans hs (.head (step_leave_panicked hl) ?_)), hf⟩
 have e : (b.atR (mkA n ρ ds) (.inRegion ops (i :: is) :: k)).raise [pentry v] = { b.atR (mkA n ρ ds) (.inRegion ops (i :: is) :: k) with mode := .panicking [pentry v] } := by
  simp [Frame.raise, Frame.atR]
 rw [e]
 exact hm'
def AnyP (P : Program) (Q : Value → World → Prop) (n : Nat) (ops : Array Oper) (m : Nat) (G : World → World → Prop) (K : Env → World → Prop) : Nat → Array Bool → Env → World → Prop
 | 0, listed, ρ, w => ((∀ i, i < m → listed.getD i true = true) → K ρ w) ∧ ∀ (i : Nat), i < m → rdy ops listed i = false
 | f + 1, listed, ρ, w => ((∀ i, i < m → listed.getD i true = true) → K ρ w) ∧ ∀ (i : Nat) (o : Oper), i < m → ops[i]? = some o → rdy ops listed i = true →
   SpP P Q ops n ρ o w fun v w2 => G w w2 ∧ AnyP P Q n ops m G K f (listed.setIfInBounds i true) (updO o.dst v ρ) w2

theorem AnyP.first {K : Env → World → Prop} {i : Nat} {oi : Oper} {v : Value} (hr0 : ∀ w, G w w) (htr : ∀ {u v w}, G u v → G v w → G u w) (hok : DrawOk ops m) (hi : ops[i]? = some oi) (him : i < m) :
  ∀ (f : Nat) (listed : Array Bool) (ρ : Env) (w : World), rdy ops listed i = true → Exact P ops n G ρ oi w v →
   AnyP P Q n ops m G K f (listed.setIfInBounds i true) (updO oi.dst v ρ) w → AnyP P Q n ops m G K (f + 1) listed ρ w := by
 intro f
 induction f with
 | zero =>
  intro listed ρ w hr hy H
  refine ⟨fun hl => ?_, fun j oj hjm hj hrj => ?_⟩
  ·have := (rdy_spec hr).1; rw [hl i him] at this; cases this
  by_cases e : j = i
  ·subst e
   have : oj = oi := Option.some.inj (hj.symm.trans hi)
   subst this
   exact SpP.of ((hy w (hr0 w)).mono fun u w2 ⟨hu, h2⟩ => by subst hu; subst h2; exact ⟨hr0 _, H⟩)
  have := H.2 j hjm
  rw [rdy_other e hrj] at this
  cases this
 | succ f ih =>
  intro listed ρ w hr hy H
  refine ⟨fun hl => ?_, fun j oj hjm hj hrj => ?_⟩
  ·have := (rdy_spec hr).1; rw [hl i him] at this; cases this
  by_cases e : j = i
  ·subst e
   have : oj = oi := Option.some.inj (hj.symm.trans hi)
   subst this
   exact SpP.of ((hy w (hr0 w)).mono fun u w2 ⟨hu, h2⟩ => by subst hu; subst h2; exact ⟨hr0 _, H⟩)
  have h2 := H.2 j oj hjm hj (rdy_other e hrj)
  have hap : apartB ops oi oj = true := by
   rcases hok.apart i j oi oj him hjm (Ne.symm e) hi hj with h | h | h
   ·obtain ⟨_, o', ho', hw'⟩ := rdy_spec hrj
    have : o' = oj := Option.some.inj (ho'.symm.trans hj)
    subst this
    have := hw' i h
    rw [getD_both (rdy_spec hr).1] at this; cases this
   ·obtain ⟨_, o', ho', hw'⟩ := rdy_spec hr
    have : o' = oi := Option.some.inj (ho'.symm.trans hi)
    subst this
    have := hw' j h
    rw [getD_both (rdy_spec hrj).1] at this; cases this
   exact h
  obtain ⟨a1, a2, a3⟩ := apartB_spec hap
  rw [SpP.congr (not_sel (hok.sel j oj hj)) a1] at h2
  refine h2.mono fun u w2 ⟨h3, h4⟩ => ⟨h3, ?_⟩
  refine ih (listed.setIfInBounds j true) (updO oj.dst u ρ) w2 (rdy_other (Ne.symm e) hr) (fun w3 h5 => ?_) ?_
  ·rw [Sp.congr (not_sel (hok.sel i oi hi)) a3]
   exact hy w3 (htr h3 h5)
  rw [Array.setIfInBounds_comm _ _ e, ← updO_comm ρ v u a2]
  exact h4

def RP (P : Program) (Q : Value → World → Prop) (b : Frame) (cs : List Frame) (fin : Machine → Prop) (n : Nat) (ops : Array Oper) (m : Nat) (G : World → World → Prop) (k : List Item) (ds : List Deferred) (listed : Array Bool) (ρ : Env) (w : World) : Prop :=
 ∃ f, AnyP P Q n ops m G (fun ρ w => RunL P b cs fin n ops (ops.toList.drop m) k ρ ds w) f listed ρ w

variable {Y : Nat → Prop} {listed listed' : Array Bool}

theorem p_exact {v : Value} (i : Nat) (o : Oper) (hok : drawOk ops m = true) (ho : ops[i]? = some o) (him : Nat.blt i m = true) (hr : rdy ops listed i = true) (hl : listed.setIfInBounds i true = listed')
  (hx : Exact P ops n (Keep Y) ρ o w v) (h : RP P Q b cs fin n ops m (Keep Y) k ds listed' (updO o.dst v ρ) w) : RP P Q b cs fin n ops m (Keep Y) k ds listed ρ w := by
 subst hl
 obtain ⟨f, hf⟩ := h
 exact ⟨f + 1, AnyP.first (fun w => Keep.refl Y w) (fun h h' => h.trans h') (drawOk_spec hok) ho (by simpa using him) f listed ρ w hr hx hf⟩

theorem p_done (hr : ((List.range m).all fun i => !rdy ops listed i) = true) (h : RunL P b cs fin n ops (ops.toList.drop m) k ρ ds w) : RP P Q b cs fin n ops m G k ds listed ρ w := by
 refine ⟨0, fun _ => h, fun i hi => ?_⟩
 have := List.all_eq_true.1 hr i (List.mem_range.2 hi)
 simpa using this

theorem AnyP.trunc {K : Env → World → Prop} : ∀ (f F : Nat) (listed : Array Bool) (ρ : Env) (w : World), left m listed ≤ f → AnyP P Q n ops m G K F listed ρ w → AnyP P Q n ops m G K f listed ρ w := by
 intro f
 induction f with
 | zero =>
  intro F listed ρ w hl h
  refine ⟨?_, fun i hi => ?_⟩
  ·cases F with
   | zero => exact h.1
   | succ F => exact h.1
  cases hr : rdy ops listed i with
  | false => rfl
  | true =>
   have := left_set hi (rdy_spec hr).1
   omega
 | succ f ih =>
  intro F listed ρ w hl h
  refine ⟨?_, fun i o hi ho hr => ?_⟩
  ·cases F with
   | zero => exact h.1
   | succ F => exact h.1
  cases F with
  | zero => have := h.2 i hi; rw [hr] at this; cases this
  | succ F =>
   have hls := left_set hi (rdy_spec hr).1
   exact (h.2 i o hi ho hr).mono fun v w2 ⟨h1, h2⟩ => ⟨h1, ih F _ _ _ (by omega) h2⟩

def NxP (P : Program) (Q : Value → World → Prop) (b : Frame) (cs : List Frame) (fin : Machine → Prop) (n : Nat) (ops : Array Oper) (m : Nat) (Y : Nat → Prop) (k : List Item) (ds : List Deferred) (listed : Array Bool) (ρ : Env) (w : World) (i : Nat) : Prop :=
 ∃ o listed', ops[i]? = some o ∧ listed.setIfInBounds i true = listed' ∧ SpP P Q ops n ρ o w fun v w2 => Keep Y w w2 ∧ RP P Q b cs fin n ops m (Keep Y) k ds listed' (updO o.dst v ρ) w2

theorem p_next (is : List Nat) (hl : ((List.range m).all fun i => listed.getD i true) = false) (hr : ((List.range m).all fun j => is.contains j || !rdy ops listed j) = true)
  (h : Each (NxP P Q b cs fin n ops m Y k ds listed ρ w) is) : RP P Q b cs fin n ops m (Keep Y) k ds listed ρ w := by
 refine ⟨m + 1, fun hall => ?_, fun i o hi ho hri => ?_⟩
 ·rw [List.all_eq_true.2 fun i hi => hall i (List.mem_range.1 hi)] at hl; cases hl
 have h1 := List.all_eq_true.1 hr i (List.mem_range.2 hi)
 rw [hri] at h1
 obtain ⟨o', listed', ho', hl', hs⟩ := h.mem (i := i) (by simpa using h1)
 have : o' = o := Option.some.inj (ho'.symm.trans ho)
 subst this
 subst hl'
 exact hs.mono fun v w2 ⟨h1, f, hf⟩ => ⟨h1, hf.trunc _ _ _ _ _ (left_le _ _)⟩

theorem sp_callP {T : TypeId} {d' : Option Nat} {F : Operand} {as : List Operand} {ts : Array TypeId} {f : FuncId} {pos : String} {af : Array Edge} {g : Option (Nat × Bool)} {Φ : Value → World → Prop} (first cap vals : List Value)
  (hg : gOk ops n ρ g = true) (hF : ev n ρ F = .func (.func f) first.toArray cap.toArray) (he : ∀ args w, (callFunc f args).run P w = .ok (.enter f args) w) (ha : first ++ as.map (ev n ρ) ++ cap = vals)
  (hc : Cp P f vals.toArray w Φ Q) : SpP P Q ops n ρ ⟨d', .call ⟨.value F, as.toArray, ts⟩, T, pos, af, g⟩ w Φ := by
 subst ha
 exact .inr ⟨hg, nofun, f, _, w, run_call hF he rfl, hc⟩
end
end Go.Vk

namespace Go.Vk
open Go
section
variable {P : Program} {b : Frame} {cs : List Frame} {fin : Machine → Prop} {n : Nat} {k : List Item} {ρ : Env} {ds : List Deferred} {w w' : World} {ops : Array Oper} {m : Nat} {G : World → World → Prop} {Q : Value → World → Prop} {I : Env → Prop}
theorem any_runI (hok : DrawOk ops m) {K : Env → World → Prop} {A : Nat → Array Bool → Env → World → Prop}
  (hdone : ∀ f listed ρ w, A f listed ρ w → (∀ i, i < m → listed.getD i true = true) → K ρ w)
  (hnext : ∀ f listed ρ w (i : Nat) (o : Oper), A f listed ρ w → i < m → ops[i]? = some o → rdy ops listed i = true → ∃ g, SpP P Q ops n ρ o w fun v w2 => A g (listed.setIfInBounds i true) (updO o.dst v ρ) w2) (hIA : ∀ f listed ρ w, A f listed ρ w → I ρ) (hQ : ∀ ρ v w k', I ρ → Q v w → LeaveU P b cs fin n k' ρ ds (.panicking [pentry v]) w) (hK : ∀ ρ w, K ρ w → RunL P b cs fin n ops (ops.toList.drop m) k ρ ds w) :
  ∀ (fuel f t : Nat) (listed : Array Bool) (ρ : Env) (w : World), A f listed ρ w → Inv ops m listed → (∀ i, m ≤ i → i < ops.size → listed.getD i true = false) →
   ops.size - fuel ≤ ((List.range m).filter fun i => listed.getD i true).length →
   Run P b cs fin n (.inRegion ops (Region.linearise.go .any ops fuel t listed []) :: k) ρ ds w := by
 intro fuel
 induction fuel with
 | zero =>
  intro f t listed ρ w h inv htail hcount
  have hle : ((List.range m).filter fun i => listed.getD i true).length ≤ m := by
   have := List.length_filter_le (fun i => listed.getD i true) (List.range m); simpa using this
  have hm : m = ops.size := by have := hok.le; omega
  have hall : ∀ i, i < m → listed.getD i true = true := by
   have : (List.range m).filter (fun i => listed.getD i true) = List.range m := List.filter_eq_self.2 (by
    have h1 := List.length_filter_eq_length_iff (l := List.range m) (p := fun i => listed.getD i true)
    exact h1.1 (by rw [List.length_range]; omega))
   intro i hi
   have := List.filter_eq_self.1 this i (List.mem_range.2 hi)
   simpa using this
  have := hK ρ w (hdone _ _ _ _ h hall)
  have hd : ops.toList.drop m = [] := by rw [hm]; simp
  rw [hd] at this
  exact this [] rfl
 | succ fuel ih =>
  intro f t listed ρ w h inv htail hcount
  by_cases hall : ∀ i, i < m → listed.getD i true = true
  ·have hlen : ((List.range m).filter fun i => listed.getD i true).length = m := by
    rw [List.filter_eq_self.2 (fun i hi => hall i (List.mem_range.1 hi))]; simp
   rw [tail_order hok (ops.size - m) m (fuel + 1) t listed rfl (Nat.le_refl _) hok.le inv hall htail (by have := hok.le; omega)]
   exact hK ρ w (hdone _ _ _ _ h hall) _ (range'_map m _ (by have := hok.le; omega))
  have hex : ∃ i, i < m ∧ listed.getD i true = false := by
   apply Classical.byContradiction
   intro hno
   exact hall fun i hi => by
    cases e : listed.getD i true with
    | true => rfl
    | false => exact absurd ⟨i, hi, e⟩ hno
  obtain ⟨j, hjm, hjl, hjb⟩ := exists_first m hex
  have hrj := ready_first hok inv.size (Nat.lt_of_lt_of_le hjm hok.le) hjl hjb
  have hne : Region.ready .any ops listed ≠ [] := fun e => by
   have := mem_ready_iff.2 hrj; rw [e] at this; cases this
  obtain ⟨x, hx, hxm⟩ := pick_some hne t
  have hxr := mem_ready_iff.1 hxm
  obtain ⟨hxl, o, ho, hw⟩ := rdy_spec hxr
  have hxs := (Array.getElem?_eq_some_iff.1 ho).1
  have hxlt : x < m := by
   rcases Nat.lt_or_ge x m with h' | h'
   ·exact h'
   have := inv.anc (ops.size + 1) x (fun o' ho' y hy => by
    have : o' = o := Option.some.inj (ho'.symm.trans ho)
    subst this; exact hw y hy) j (hok.tail x h' hxs j (by omega))
   rw [getD_both hjl] at this; cases this
  rw [go_step, hx]
  obtain ⟨g, hsp⟩ := hnext _ _ _ _ _ _ h hxlt ho hxr
  refine hsp.run ho (fun v w k' hq => hQ _ v w k' (hIA _ _ _ _ h) hq) fun v w' h' => ih g _ _ _ _ h' (inv.set hxr) (fun i h1 h2 => by rw [getD_set_other (by omega)]; exact htail i h1 h2) ?_
  have hgrow : ((List.range m).filter fun i => listed.getD i true).length + 1 ≤ ((List.range m).filter fun i => (listed.setIfInBounds x true).getD i true).length := by
   have key : ∀ l : List Nat, l.Nodup → x ∈ l → (l.filter fun i => listed.getD i true).length + 1 ≤ (l.filter fun i => (listed.setIfInBounds x true).getD i true).length := by
    intro l
    induction l with
    | nil => intro _ h; cases h
    | cons y l ihl =>
     intro hnd hmem
     have hnd' := List.nodup_cons.1 hnd
     by_cases e : x = y
     ·subst e
      have hset : (listed.setIfInBounds x true).getD x true = true := by simp [inv.size, hxs]
      rw [List.filter_cons_of_neg (by simp [hxl]), List.filter_cons_of_pos (p := fun i => (listed.setIfInBounds x true).getD i true) hset, List.length_cons]
      refine Nat.succ_le_succ (Nat.le_of_eq ?_)
      congr 1
      apply List.filter_congr
      intro z hz
      rw [getD_set_other (by rintro rfl; exact hnd'.1 hz)]
     have hmem' : x ∈ l := by rcases List.mem_cons.1 hmem with h | h; exact absurd h e; exact h
     have := ihl hnd'.2 hmem'
     have he : (listed.setIfInBounds x true).getD y true = listed.getD y true := getD_set_other e
     by_cases hy : listed.getD y true = true
     ·rw [List.filter_cons_of_pos (by simpa using hy), List.filter_cons_of_pos (by rw [he]; simpa using hy)]
      simp only [List.length_cons]; omega
     rw [List.filter_cons_of_neg (by simpa using hy), List.filter_cons_of_neg (by rw [he]; simpa using hy)]
     exact this
   exact key _ List.nodup_range (List.mem_range.2 hxlt)
  omega

theorem r_drawI {id : Nat} (m : Nat) (Y : Nat → Prop) (I : Env → Prop) (hI : I ρ) (hIs : ∀ (i : Nat) (o : Oper) (v : Value) (ρ : Env), ops[i]? = some o → I ρ → I (updO o.dst v ρ)) (hmo : P.follows .mixedOrders = true) (hok : drawOk ops m = true)
  (hQ : ∀ ρ v w k', I ρ → Q v w → LeaveU P b cs fin n k' ρ ds (.panicking [pentry v]) w) (h : ∀ w1, Le w w1 → RP P Q b cs fin n ops m (Keep Y) k ds (Array.replicate ops.size false) ρ w1) :
  Run P b cs fin n (.code (.region id ops true) :: k) ρ ds w := by
 refine Run.of_step stepR_region_draw ?_
 have hok := drawOk_spec hok
 obtain ⟨f, hf⟩ := h { w with drawn := w.drawn + 1 } (Le.drew w)
 have := any_runI (I := I) (P := P) (Q := Q) (n := n) (b := b) (cs := cs) (fin := fin) (k := k) (ds := ds) hok (A := fun f listed ρ w => AnyP P Q n ops m (Keep Y) (fun ρ w => RunL P b cs fin n ops (ops.toList.drop m) k ρ ds w) f listed ρ w ∧ I ρ)
  (fun f listed ρ w h hl => by cases f with
   | zero => exact h.1.1 hl
   | succ f => exact h.1.1 hl)
  (fun f listed ρ w i o h hi ho hr => by cases f with
   | zero => have := h.1.2 i hi; rw [hr] at this; cases this
   | succ f => exact ⟨f, (h.1.2 i o hi ho hr).mono fun v _ h9 => ⟨h9.2, hIs i o v ρ ho h.2⟩⟩)
  (fun _ _ _ _ h => h.2) hQ (fun _ _ h => h) ops.size f (w.tape w.drawn (.order b.fn id)) (Array.replicate ops.size false) ρ { w with drawn := w.drawn + 1 } ⟨hf, hI⟩
  ⟨by simp, fun j o ho hj => by
   have : j < ops.size := (Array.getElem?_eq_some_iff.1 ho).1
   simp [this] at hj⟩ (fun i _ hi => by simp [hi]) (by omega)
 simp only [Region.schedule, hmo, Bool.true_or, if_true, Region.linearise]
 exact this
end
section
variable {P : Program} {b : Frame} {cs : List Frame} {fin : Machine → Prop} {n : Nat} {k : List Item} {ρ : Env} {ds : List Deferred} {w : World} {ops : Array Oper} {m : Nat} {Q : Value → World → Prop} {Y : Nat → Prop} {listed listed' : Array Bool}
 {d : Nat} {ty : TypeId} {pos : String} {af : Array Edge} {g : Option (Nat × Bool)} {v : Value} {T : TypeId} {x y : Operand}
theorem p_index {α : Type} (L : Elt α) {l : List α} {j : Int} {q : α} (i : Nat) (hok : drawOk ops m = true) (ho : ops[i]? = some ⟨some d, .indexAddr T x y, ty, pos, af, g⟩) (him : Nat.blt i m = true) (hr : rdy ops listed i = true)
  (hl : listed.setIfInBounds i true = listed') (hg : gOk ops n ρ g = true) (hrd : Rd L w v l) (hx : ev n ρ x = v) (hy : ev n ρ y = .int .i64 j)
  (hu : ∀ w, (underlying T).run P w = .ok (.slice L.T) w) (hs : ∀ w, (sizeOf L.T).run P w = .ok L.sz w) (hb : 0 ≤ j) (hi : l[j.toNat]? = some q)
  (h : ∀ b' o', At L v j.toNat ⟨b', o', none⟩ → RP P Q b cs fin n ops m (Keep Y) k ds listed' (upd ρ d (.pointer (some ⟨b', o', none⟩))) w) :
  RP P Q b cs fin n ops m (Keep Y) k ds listed ρ w := by
 obtain ⟨p, cap, rfl, hc, hrow⟩ := hrd
 obtain ⟨b', o', rfl, hrw⟩ := hrow j.toNat q hi
 have hlt : j.toNat < l.length := (List.getElem?_eq_some_iff.1 hi).1
 exact p_exact i _ hok ho him hr hl (ex_x hg fun w1 _ => x_indexAddr_slice hx hy hu hs ⟨hb, by omega⟩) (h b' (o' + j.toNat * L.sz) ⟨b', o', _, _, rfl, rfl⟩)
theorem I_keep {a c : Nat} {va vc : Value} (h : (ops.toList.all fun o => decide (o.dst ≠ some a) && decide (o.dst ≠ some c)) = true) (i : Nat) (o : Oper) (v : Value) (ρ : Env) (ho : ops[i]? = some o) (hi : ρ a = va ∧ ρ c = vc) : updO o.dst v ρ a = va ∧ updO o.dst v ρ c = vc := by
 have hm : o ∈ ops.toList := by
  obtain ⟨h1, h2⟩ := Array.getElem?_eq_some_iff.1 ho
  rw [← h2]; simp
 have h1 := List.all_eq_true.1 h o hm
 rw [Bool.and_eq_true, decide_eq_true_eq, decide_eq_true_eq] at h1
 cases e : o.dst with
 | none => exact hi
 | some d =>
  rw [e] at h1
  have ha : a ≠ d := fun q => h1.1 (by rw [q])
  have hc : c ≠ d := fun q => h1.2 (by rw [q])
  show upd ρ d v a = va ∧ upd ρ d v c = vc
  rw [upd_other ha, upd_other hc]
  exact hi
end
end Go.Vk

namespace Go.Vk
open Go
section
variable {P : Program} {b : Frame} {cs : List Frame} {fin : Machine → Prop} {n : Nat} {all : Array Oper} {rest : List Oper} {k : List Item} {ρ : Env} {ds : List Deferred} {w : World} {X : Nat → Prop} {w0 : World} {L : List Rsc}
 {d : Nat} {d' : Option Nat} {ty : TypeId} {pos : String} {af : Array Edge} {g : Option (Nat × Bool)} {T : TypeId} {x y : Operand} {α : Type} {E : Elt α} {v v' : Value} {l : List α}
end
end Go.Vk
