/- The proof engine, part 1: symbolic execution on the machine's own todo list. Generic over the program. -/
import Derived.CallsIn
import Derived.RangeFuncIn
import Derived.Orders
import Derived.Attr
import Derived.Tactics
namespace Go.Vk
open Go

abbrev Env := Nat → Value

/-- The environment with one slot set. -/
def upd (ρ : Env) (d : Nat) (v : Value) : Env := fun t => bif Nat.beq t d then v else ρ t

theorem upd_same (ρ : Env) (d : Nat) (v : Value) : upd ρ d v d = v := by simp [upd]
theorem upd_other {ρ : Env} {d t : Nat} {v : Value} (h : t ≠ d) : upd ρ d v t = ρ t := by
  have : Nat.beq t d = false := by
    cases e : Nat.beq t d with
    | false => rfl
    | true => exact absurd (Nat.eq_of_beq_eq_true e) h
  simp [upd, this]
theorem upd_self {ρ : Env} {d : Nat} {v : Value} (h : ρ d = v) : upd ρ d v = ρ := by
  funext t
  by_cases e : t = d
  · subst e; rw [upd_same, h]
  · rw [upd_other e]

/-- The activation of n slots that an environment stands for. -/
def mkA (n : Nat) (ρ : Env) (ds : List Deferred) : Act := { tmps := Array.ofFn (n := n) fun i => ρ i, defers := ds }

theorem mkA_put (n : Nat) (ρ : Env) (ds : List Deferred) (d : Nat) (v : Value) : (mkA n ρ ds).put (some d) v = mkA n (upd ρ d v) ds := by
  simp only [mkA, Act.put]
  congr 1
  apply Array.ext
  · simp
  · intro i h1 h2
    simp only [Array.size_setIfInBounds, Array.size_ofFn] at h1
    rw [Array.getElem_setIfInBounds (by simpa using h1)]
    simp only [Array.getElem_ofFn]
    by_cases e : d = i
    · subst e; simp [upd_same]
    · rw [if_neg e, upd_other (Ne.symm e)]

/-- What an operand stands for. -/
def ev (n : Nat) (ρ : Env) : Operand → Value
  | .tmp t => bif Nat.blt t n then ρ t else undef
  | .const v => v
  | .global g => .pointer (some ⟨g, 0, none⟩)
  | .func f => .func (.func f) #[] #[]

theorem mkA_eval (n : Nat) (ρ : Env) (ds : List Deferred) : (mkA n ρ ds).eval = ev n ρ := by
  funext x
  cases x with
  | tmp t =>
    simp only [Act.eval, mkA, ev]
    by_cases h : t < n
    · have : Nat.blt t n = true := by simpa using h
      simp [this, h]
    · have : Nat.blt t n = false := by
        cases e : Nat.blt t n with
        | false => rfl
        | true => exact absurd (Nat.blt_eq ▸ e) h
      simp [this, h]
  | _ => rfl

theorem mkA_get (n : Nat) (ρ : Env) (ds : List Deferred) (t : Nat) (h : t < n) : (mkA n ρ ds).tmps[t]? = some (ρ t) := by
  simp [mkA, h]

/-- The machine of one frame comes to a machine that is as is asked. -/
def Run (P : Program) (b : Frame) (cs : List Frame) (fin : Machine → Prop) (n : Nat) (k : List Item) (ρ : Env) (ds : List Deferred) (w : World) : Prop :=
  ∃ m, Steps P (lone (b.atR (mkA n ρ ds) k) cs w) m ∧ fin m

section rules
variable {P : Program} {b : Frame} {cs : List Frame} {fin : Machine → Prop} {n : Nat} {k : List Item} {ρ : Env} {ds : List Deferred} {w : World}

theorem Run.of_step {k' : List Item} {ρ' : Env} {ds' : List Deferred} {w' : World}
    (hs : step P (lone (b.atR (mkA n ρ ds) k) cs w) = .next (lone (b.atR (mkA n ρ' ds') k') cs w')) (h : Run P b cs fin n k' ρ' ds' w') :
    Run P b cs fin n k ρ ds w :=
  let ⟨m, h1, h2⟩ := h; ⟨m, .head hs h1, h2⟩

theorem r_skip (h : Run P b cs fin n k ρ ds w) : Run P b cs fin n (.code .skip :: k) ρ ds w := h.of_step stepR_skip
theorem r_label {l : Nat} (h : Run P b cs fin n k ρ ds w) : Run P b cs fin n (.code (.label l) :: k) ρ ds w := h.of_step stepR_label
theorem r_inBlock {id : Nat} (h : Run P b cs fin n k ρ ds w) : Run P b cs fin n (.inBlock id :: k) ρ ds w := h.of_step stepR_inBlock
theorem r_seq {x y : Code} (h : Run P b cs fin n (.code x :: .code y :: k) ρ ds w) : Run P b cs fin n (.code (.seq x y) :: k) ρ ds w := h.of_step stepR_seq
theorem r_block {id : Nat} {c : Code} (h : Run P b cs fin n (.code c :: .inBlock id :: k) ρ ds w) : Run P b cs fin n (.code (.block id c) :: k) ρ ds w := h.of_step stepR_block
theorem r_loop0 {c : Code} (h : Run P b cs fin n (.code c :: .inLoop c :: k) ρ ds w) : Run P b cs fin n (.code (.loop c) :: k) ρ ds w := h.of_step stepR_loop
theorem r_inLoop0 {c : Code} (h : Run P b cs fin n (.code c :: .inLoop c :: k) ρ ds w) : Run P b cs fin n (.inLoop c :: k) ρ ds w := h.of_step stepR_inLoop
theorem r_exit {id : Nat} {k' : List Item} (hk : exitTo id k = some k') (h : Run P b cs fin n k' ρ ds w) : Run P b cs fin n (.code (.exit id) :: k) ρ ds w := h.of_step (stepR_exit hk)
theorem r_goto {l : Nat} {k' : List Item} (hk : gotoIn l k = some k') (h : Run P b cs fin n k' ρ ds w) : Run P b cs fin n (.code (.goto l) :: k) ρ ds w := h.of_step (stepR_goto hk)
theorem stepR_scope {a : Act} {c : Code} : step P (lone (b.atR a (.code (.scope c) :: k)) cs w) = .next (lone (b.atR a (.code c :: .inScope c :: k)) cs w) :=
  step_lone_go (by simp [stepG, stepG.exec, Frame.atR])
theorem stepR_inScope {a : Act} {c : Code} : step P (lone (b.atR a (.inScope c :: k)) cs w) = .next (lone (b.atR a k) cs w) :=
  step_lone_go (by simp [stepG, stepG.exec, Frame.atR])
theorem r_scope {c : Code} (h : Run P b cs fin n (.code c :: .inScope c :: k) ρ ds w) : Run P b cs fin n (.code (.scope c) :: k) ρ ds w := h.of_step stepR_scope
theorem r_inScope {c : Code} (h : Run P b cs fin n k ρ ds w) : Run P b cs fin n (.inScope c :: k) ρ ds w := h.of_step stepR_inScope

theorem r_cond {c : Operand} {x y : Code} {t : Bool} (hc : ev n ρ c = .bool t) (h : Run P b cs fin n (.code (bif t then x else y) :: k) ρ ds w) :
    Run P b cs fin n (.code (.cond c x y) :: k) ρ ds w := by
  refine Run.of_step (stepR_cond (t := t) (by rw [mkA_eval]; exact hc)) ?_
  cases t <;> exact h
theorem r_true {c : Operand} {x y : Code} (hc : ev n ρ c = .bool true) (h : Run P b cs fin n (.code x :: k) ρ ds w) : Run P b cs fin n (.code (.cond c x y) :: k) ρ ds w := r_cond hc h
theorem r_false {c : Operand} {x y : Code} (hc : ev n ρ c = .bool false) (h : Run P b cs fin n (.code y :: k) ρ ds w) : Run P b cs fin n (.code (.cond c x y) :: k) ρ ds w := r_cond hc h
theorem r_if {c : Operand} {x y : Code} {t : Bool} (hc : ev n ρ c = .bool t) (ht : t = true → Run P b cs fin n (.code x :: k) ρ ds w)
    (hf : t = false → Run P b cs fin n (.code y :: k) ρ ds w) : Run P b cs fin n (.code (.cond c x y) :: k) ρ ds w := by
  cases t
  · exact r_false hc (hf rfl)
  · exact r_true hc (ht rfl)
/-- A test whose outcome is a decided proposition. -/
theorem r_ifd {c : Operand} {x y : Code} {p : Prop} [Decidable p] (hc : ev n ρ c = .bool (decide p)) (ht : p → Run P b cs fin n (.code x :: k) ρ ds w)
    (hf : ¬ p → Run P b cs fin n (.code y :: k) ρ ds w) : Run P b cs fin n (.code (.cond c x y) :: k) ρ ds w :=
  r_if hc (fun h => ht (of_decide_eq_true h)) (fun h => hf (of_decide_eq_false h))

/-! ### slots -/

/-- The environment has these slots. -/
def Agree (ρ : Env) : List (Nat × Value) → Prop
  | [] => True
  | (d, v) :: l => ρ d = v ∧ Agree ρ l

def upds (ρ : Env) : List (Nat × Value) → Env
  | [] => ρ
  | (d, v) :: l => upd (upds ρ l) d v

theorem upds_agree {ρ : Env} {l : List (Nat × Value)} (h : Agree ρ l) : upds ρ l = ρ := by
  induction l with
  | nil => rfl
  | cons p l ih =>
    obtain ⟨d, v⟩ := p
    simp only [upds, ih h.2]
    exact upd_self h.1

/-- Behind this point only the named slots are known: what follows is proved once. -/
theorem r_cut {G : Type} (slots : G → List (Nat × Value)) (I : G → World → Prop)
    (hK : ∀ g ρ w, I g w → Run P b cs fin n k (upds ρ (slots g)) ds w) {x : Item}
    (h : (∀ g ρ w, Agree ρ (slots g) → I g w → Run P b cs fin n k ρ ds w) → Run P b cs fin n (x :: k) ρ ds w) : Run P b cs fin n (x :: k) ρ ds w :=
  h fun g ρ w ha hi => by have := hK g ρ w hi; rwa [upds_agree ha] at this

/-- A loop: by induction on a measure of the ghost state. -/
theorem r_loop {G : Type} (μ : G → Nat) (slots : G → List (Nat × Value)) (I : G → World → Prop) {c : Code} (g : G) (ha : Agree ρ (slots g)) (hI : I g w)
    (round : ∀ g ρ w, I g w → (∀ g' ρ' w', μ g' < μ g → Agree ρ' (slots g') → I g' w' → Run P b cs fin n (.inLoop c :: k) ρ' ds w') →
      Run P b cs fin n (.code c :: .inLoop c :: k) (upds ρ (slots g)) ds w) :
    Run P b cs fin n (.code (.loop c) :: k) ρ ds w := by
  have key : ∀ N g ρ w, μ g = N → Agree ρ (slots g) → I g w → Run P b cs fin n (.inLoop c :: k) ρ ds w := by
    intro N
    induction N using Nat.strongRecOn with
    | _ N ih =>
      intro g ρ w hN ha hI
      refine r_inLoop0 ?_
      have := round g ρ w hI fun g' ρ' w' hlt ha' hI' => ih _ (hN ▸ hlt) g' ρ' w' rfl ha' hI'
      rwa [upds_agree ha] at this
  have h := key _ g ρ w rfl ha hI
  refine r_loop0 ?_
  obtain ⟨m, hs, hf⟩ := h
  obtain ⟨j, hj⟩ := hs
  cases j with
  | zero =>
    -- the machine before a round of a loop is no end: go one round by the rule
    have := round g ρ w hI fun g' ρ' w' _ ha' hI' => key _ g' ρ' w' rfl ha' hI'
    rwa [upds_agree ha] at this
  | succ j =>
    have := round g ρ w hI fun g' ρ' w' _ ha' hI' => key _ g' ρ' w' rfl ha' hI'
    rwa [upds_agree ha] at this

end rules

/-! ### A function's call -/

/-- The call returns. -/
def Cl (P : Program) (f : FuncId) (args : Array Value) (w : World) (R : Value → World → Prop) : Prop :=
  Calls P f args w fun e w' => ∃ v, e = .returned v ∧ R v w'

theorem Cl.mono {P : Program} {f : FuncId} {args : Array Value} {w : World} {R R' : Value → World → Prop} (h : Cl P f args w R) (hr : ∀ v w', R v w' → R' v w') : Cl P f args w R' :=
  Calls.mono h fun _ _ ⟨v, he, hR⟩ => ⟨v, he, hr _ _ hR⟩

/-- How a function's frame has to end. -/
def finRet (P : Program) (f : FuncId) (cs : List Frame) (R : Value → World → Prop) : Machine → Prop := fun m =>
  ∃ v w' fr, m = lone fr cs w' ∧ R v w' ∧ fr.fn = f ∧ fr.leaving P w' (.returned v)

def frameOf (f : FuncId) : Frame := { (default : Frame) with fn := f, kind := .normal, roundOf := none }

def env0 (args : List Value) : Env := fun t => args.getD t undef

theorem fn_of_run {P : Program} {f : FuncId} {F : Func} {c : Code} {args : List Value} {w : World} {R : Value → World → Prop} (N : Nat)
    (hf : P.funcs[f]? = some F) (hb : F.body = some c) (hN : F.ntmps = N) (hle : Nat.ble args.length N = true)
    (h : ∀ cs, Run P (frameOf f) cs (finRet P f cs R) N [.code c] (env0 args) [] w) : Cl P f args.toArray w R := by
  have ha : args.length ≤ N := Nat.le_of_ble_eq_true hle
  intro cs
  obtain ⟨m, hs, v, w', fr, rfl, hR, hfn, hl⟩ := h cs
  refine ⟨.returned v, w', fr, ⟨v, rfl, hR⟩, ?_, hfn, hl⟩
  have henter : Frame.enter P f args.toArray .normal = (frameOf f).atR (mkA N (env0 args) []) [.code c] := by
    have ht : args.toArray ++ Array.replicate (N - args.toArray.size) undef = Array.ofFn (n := N) fun i => env0 args i := by
      apply Array.ext
      · simp; omega
      · intro i h1 h2
        simp only [Array.size_ofFn] at h2
        rw [Array.getElem_append]
        simp only [Array.getElem_ofFn, env0]
        by_cases hi : i < args.length
        · simp [hi]
        · simp [hi]
    simp [Frame.enter, Frame.atR, hf, hb, hN, frameOf, mkA, ← ht]
  rw [henter]
  exact hs

/-- The values of the result variables. -/
def Res (P : Program) (N : Nat) (ρ : Env) (w : World) : List ResultVar → List Value → Prop
  | [], [] => True
  | .tmp t :: rs, v :: vs => v = (bif Nat.blt t N then ρ t else undef) ∧ Res P N ρ w rs vs
  | .cell a t :: rs, v :: vs => (∃ p, (bif Nat.blt a N then ρ a else undef) = .pointer (some p) ∧ (loadVar t p).run P w = .ok v w) ∧ Res P N ρ w rs vs
  | _, _ => False

def packed : List Value → Value
  | [v] => v
  | vs => .tuple vs.toArray

def resSem (tmps : Array Value) : ResultVar → Sem Value
  | .tmp t => pure (tmps.getD t undef)
  | .cell a t => do loadVar t (← asAddr (tmps.getD a undef))

theorem mapM_results {P : Program} {N : Nat} {ρ : Env} {ds : List Deferred} {w : World} : ∀ (rs : List ResultVar) (vs : List Value), Res P N ρ w rs vs →
    (rs.mapM (resSem (mkA N ρ ds).tmps)).run P w = .ok vs w := by
  have hget : ∀ t, (mkA N ρ ds).tmps.getD t undef = (bif Nat.blt t N then ρ t else undef) := fun t => congrFun (mkA_eval N ρ ds) (.tmp t)
  intro rs
  induction rs with
  | nil => intro vs h; cases vs with
    | nil => rfl
    | cons v vs => exact h.elim
  | cons r rs ih =>
    intro vs h
    cases vs with
    | nil => cases r <;> exact h.elim
    | cons v vs =>
      have hh : (resSem (mkA N ρ ds).tmps r).run P w = .ok v w ∧ Res P N ρ w rs vs := by
        cases r with
        | tmp t => exact ⟨by rw [h.1, ← hget]; rfl, h.2⟩
        | cell a t =>
          obtain ⟨⟨p, hp, hl⟩, h⟩ := h
          refine ⟨?_, h⟩
          simp only [resSem, hget, hp, asAddr]
          exact hl
      rw [List.mapM_cons, Sem.run_bind, hh.1, Result.andThen, Sem.run_bind, ih vs hh.2]
      rfl

theorem results_run {P : Program} {N : Nat} {ρ : Env} {ds : List Deferred} {w : World} {F : Func} {rs : List ResultVar} {vs : List Value}
    (hr : F.results = rs.toArray) (h : Res P N ρ w rs vs) : (results F (mkA N ρ ds).tmps).run P w = .ok (packed vs) w := by
  have hm := mapM_results (ds := ds) rs vs h
  have e : results F (mkA N ρ ds).tmps = (do let vs ← F.results.mapM (resSem (mkA N ρ ds).tmps); pure (if h : vs.size = 1 then vs[0] else .tuple vs)) := rfl
  rw [e, hr, Sem.run_bind]
  have e2 : (rs.toArray.mapM (resSem (mkA N ρ ds).tmps)).run P w = .ok vs.toArray w := by
    rw [List.mapM_toArray, map_eq_pure_bind, Sem.run_bind, hm]
    rfl
  rw [e2]
  cases vs with
  | nil => rfl
  | cons v vs => cases vs with
    | nil => rfl
    | cons u us => rfl

/-- The end of a function: 'return'. -/
theorem r_ret {P : Program} {f : FuncId} {cs : List Frame} {R : Value → World → Prop} {N : Nat} {k : List Item} {ρ : Env} {w : World} {F : Func} {rs : List ResultVar} (vs : List Value)
    (hf : P.funcs[f]? = some F) (hr : F.results = rs.toArray) (hv : Res P N ρ w rs vs) (hR : R (packed vs) w) :
    Run P (frameOf f) cs (finRet P f cs R) N (.code .ret :: k) ρ [] w :=
  ⟨_, .one (stepR_ret rfl), _, w, _, rfl, hR, rfl, rfl, rfl, rfl, F, hf, results_run (ds := []) hr hv⟩
/-- The end of a function: behind its last statement. -/
theorem r_end {P : Program} {f : FuncId} {cs : List Frame} {R : Value → World → Prop} {N : Nat} {ρ : Env} {w : World} {F : Func} {rs : List ResultVar} (vs : List Value)
    (hf : P.funcs[f]? = some F) (hr : F.results = rs.toArray) (hv : Res P N ρ w rs vs) (hR : R (packed vs) w) :
    Run P (frameOf f) cs (finRet P f cs R) N [] ρ [] w :=
  ⟨_, .one (stepR_end rfl), _, w, _, rfl, hR, rfl, rfl, rfl, rfl, F, hf, results_run (ds := []) hr hv⟩

end Go.Vk
