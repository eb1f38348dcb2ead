/- The proof engine, part 3: operations. Generic over the program. -/
import Derived.Test.YtddapgjjndbejaaVkMem
import Derived.IntWalk
import Derived.Laws.AppendOwn
namespace Go.Vk
open Go

/-! ### A region, operation by operation -/

/-- Is the operation's guard as it asks? -/
def gOk (all : Array Oper) (n : Nat) (ρ : Env) : Option (Nat × Bool) → Bool
  | none => true
  | some (j, want) => match (all[j]?).bind (·.dst) with
    | some d => bif Nat.blt d n then (match ρ d with | .bool b => b == want | _ => false) else false
    | none => false

theorem wanted_gOk (all : Array Oper) (n : Nat) (ρ : Env) (ds : List Deferred) (o : Oper) : Region.wanted o (yielded all (mkA n ρ ds).tmps) = gOk all n ρ o.guard := by
  unfold Region.wanted gOk
  cases o.guard with
  | none => rfl
  | some g =>
    obtain ⟨j, want⟩ := g
    simp only [yielded]
    cases (all[j]?).bind (·.dst) with
    | none => rfl
    | some d =>
      by_cases h : d < n
      · have hb : Nat.blt d n = true := by simpa using h
        simp only [Option.bind_some, mkA_get n ρ ds d h, hb, cond_true]
        cases ρ d <;> rfl
      · have hb : Nat.blt d n = false := by
          cases e : Nat.blt d n with
          | false => rfl
          | true => exact absurd (Nat.blt_eq ▸ e) h
        have hg : (mkA n ρ ds).tmps[d]? = none := Array.getElem?_eq_none (by simpa [mkA] using h)
        simp [hb, hg]

def updO (d : Option Nat) (v : Value) (ρ : Env) : Env := match d with
  | some d => upd ρ d v
  | none => ρ

theorem mkA_putO (n : Nat) (ρ : Env) (ds : List Deferred) (d : Option Nat) (v : Value) : (mkA n ρ ds).put d v = mkA n (updO d v ρ) ds := by
  cases d with
  | none => rfl
  | some d => exact mkA_put n ρ ds d v

/-- What is left of a region: these operations, in this order. -/
def RunL (P : Program) (b : Frame) (cs : List Frame) (fin : Machine → Prop) (n : Nat) (all : Array Oper) (l : List Oper) (k : List Item) (ρ : Env) (ds : List Deferred) (w : World) : Prop :=
  ∀ is : List Nat, is.map (fun i => all[i]?) = l.map some → Run P b cs fin n (.inRegion all is :: k) ρ ds w

section
variable {P : Program} {b : Frame} {cs : List Frame} {fin : Machine → Prop} {n : Nat} {all : Array Oper} {rest : List Oper} {k : List Item} {ρ : Env} {ds : List Deferred} {w w' : World}

theorem r_region {id : Nat} {ops : Array Oper} (h : RunL P b cs fin n ops ops.toList k ρ ds w) : Run P b cs fin n (.code (.region id ops false) :: k) ρ ds w := by
  refine Run.of_step stepR_region (h _ ?_)
  apply List.ext_getElem?
  intro i
  simp only [List.getElem?_map]
  by_cases hi : i < ops.size
  · simp [hi]
  · simp [hi]

theorem l_nil (h : Run P b cs fin n k ρ ds w) : RunL P b cs fin n all [] k ρ ds w := by
  intro is his
  have : is = [] := by cases is with
    | nil => rfl
    | cons i is => simp at his
  subst this
  exact h.of_step stepR_region_end

theorem is_cons {o : Oper} {is : List Nat} (h : is.map (fun i => all[i]?) = (o :: rest).map some) : ∃ i is', is = i :: is' ∧ all[i]? = some o ∧ is'.map (fun i => all[i]?) = rest.map some := by
  cases is with
  | nil => simp at h
  | cons i is => simp at h; exact ⟨i, is, rfl, h.1, h.2⟩

/-- An operation whose guard says no. -/
theorem l_pass {o : Oper} (hg : gOk all n ρ o.guard = false) (h : RunL P b cs fin n all rest k (updO o.dst undef ρ) ds w) : RunL P b cs fin n all (o :: rest) k ρ ds w := by
  intro is his
  obtain ⟨i, is', rfl, ho, his'⟩ := is_cons his
  have hs := stepR_op_skip (P := P) (b := b) (a := mkA n ρ ds) (k := k) (cs := cs) (w := w) (ops := all) (i := i) (rest := is') (by rw [ho]; simp [wanted_gOk, hg])
  rw [ho, Option.bind_some, mkA_putO] at hs
  exact (h is' his').of_step hs

theorem finish_mkA {o : Oper} {i : Nat} {is' : List Nat} (ho : all[i]? = some o) (v : Value) :
    (b.atR (mkA n ρ ds) (.inRegion all (i :: is') :: k)).finish v = b.atR (mkA n (updO o.dst v ρ) ds) (.inRegion all is' :: k) := by
  rw [Frame.finish_atR, ho, Option.bind_some, mkA_putO]

/-- An operation that yields a value. -/
theorem l_value {o : Oper} {v : Value} (hg : gOk all n ρ o.guard = true) (hnd : ∀ c, o.op ≠ .defer c) (hr : (execOp (ev n ρ) o).run P w = .ok (.value v) w')
    (h : RunL P b cs fin n all rest k (updO o.dst v ρ) ds w') : RunL P b cs fin n all (o :: rest) k ρ ds w := by
  intro is his
  obtain ⟨i, is', rfl, ho, his'⟩ := is_cons his
  refine (h is' his').of_step (step_lone_go ?_)
  rw [stepGR_op ho (by rw [wanted_gOk]; exact hg), ← finish_mkA (b := b) (k := k) (n := n) (ρ := ρ) (ds := ds) (is' := is') ho, Oper.semAt_eq _ _ _ hnd, mkA_eval]
  simp [stepG.apply, hr]

theorem l_skip {o : Oper} (hg : gOk all n ρ o.guard = true) (hnd : ∀ c, o.op ≠ .defer c) (hr : (execOp (ev n ρ) o).run P w = .ok .skip w')
    (h : RunL P b cs fin n all rest k (updO o.dst undef ρ) ds w') : RunL P b cs fin n all (o :: rest) k ρ ds w := by
  intro is his
  obtain ⟨i, is', rfl, ho, his'⟩ := is_cons his
  refine (h is' his').of_step (step_lone_go ?_)
  rw [stepGR_op ho (by rw [wanted_gOk]; exact hg), ← finish_mkA (b := b) (k := k) (n := n) (ρ := ρ) (ds := ds) (is' := is') ho, Oper.semAt_eq _ _ _ hnd, mkA_eval]
  simp [stepG.apply, hr]

/-- An operation that calls a function with a body. -/
theorem l_enter {o : Oper} {f : FuncId} {args : Array Value} {R : Value → World → Prop} (hg : gOk all n ρ o.guard = true) (hnd : ∀ c, o.op ≠ .defer c)
    (hr : (execOp (ev n ρ) o).run P w = .ok (.enter f args) w') (hc : Cl P f args w' R)
    (h : ∀ v w'', R v w'' → RunL P b cs fin n all rest k (updO o.dst v ρ) ds w'') : RunL P b cs fin n all (o :: rest) k ρ ds w := by
  intro is his
  obtain ⟨i, is', rfl, ho, his'⟩ := is_cons his
  obtain ⟨e, w'', fr, ⟨v, rfl, hR⟩, hs, _, hl⟩ := hc (b.atR (mkA n ρ ds) (.inRegion all (i :: is') :: k) :: cs)
  have hent : step P (lone (b.atR (mkA n ρ ds) (.inRegion all (i :: is') :: k)) cs w) = .next (lone (Frame.enter P f args .normal) (b.atR (mkA n ρ ds) (.inRegion all (i :: is') :: k) :: cs) w') := by
    refine step_lone_go ?_
    rw [stepGR_op ho (by rw [wanted_gOk]; exact hg), Oper.semAt_eq _ _ _ hnd, mkA_eval]
    simp [stepG.apply, hr, Frame.atR]
  obtain ⟨m, hm, hf⟩ := h v w'' hR is' his'
  refine ⟨m, .head hent (Steps.trans hs (.head (step_leave_returned hl) ?_)), hf⟩
  rw [finish_mkA ho]
  exact hm

/-- The guard's slot is decided. -/
theorem l_split {l : List Oper} {d : Nat} {t : Bool} (hd : ρ d = .bool t) (ht : t = true → RunL P b cs fin n all l k (upd ρ d (.bool true)) ds w)
    (hf : t = false → RunL P b cs fin n all l k (upd ρ d (.bool false)) ds w) : RunL P b cs fin n all l k ρ ds w := by
  cases t
  · have := hf rfl; rwa [upd_self hd] at this
  · have := ht rfl; rwa [upd_self hd] at this
theorem l_splitd {l : List Oper} {d : Nat} {p : Prop} [Decidable p] (hd : ρ d = .bool (decide p)) (ht : p → RunL P b cs fin n all l k (upd ρ d (.bool true)) ds w)
    (hf : ¬ p → RunL P b cs fin n all l k (upd ρ d (.bool false)) ds w) : RunL P b cs fin n all l k ρ ds w :=
  l_split hd (fun h => ht (of_decide_eq_true h)) (fun h => hf (of_decide_eq_false h))

/-- A slot's value is written in another way. -/
theorem l_slot {l : List Oper} (d : Nat) (v : Value) (hd : ρ d = v) (h : RunL P b cs fin n all l k (upd ρ d v) ds w) : RunL P b cs fin n all l k ρ ds w := by
  rwa [upd_self hd] at h
theorem r_slot (d : Nat) (v : Value) (hd : ρ d = v) (h : Run P b cs fin n k (upd ρ d v) ds w) : Run P b cs fin n k ρ ds w := by
  rwa [upd_self hd] at h

/-- Behind this point in a region only the named slots are known. -/
theorem l_cut {G : Type} (slots : G → List (Nat × Value)) (I : G → World → Prop) {l l' : List Oper}
    (hK : ∀ g ρ w, I g w → RunL P b cs fin n all l' k (upds ρ (slots g)) ds w)
    (h : (∀ g ρ w, Agree ρ (slots g) → I g w → RunL P b cs fin n all l' k ρ ds w) → RunL P b cs fin n all l k ρ ds w) : RunL P b cs fin n all l k ρ ds w :=
  h fun g ρ w ha hi => by have := hK g ρ w hi; rwa [upds_agree ha] at this

end

/-! ### What operations yield -/

/-- The operation yields this value and leaves this world. -/
def X (P : Program) (E : Operand → Value) (op : Op) (ty : TypeId) (w : World) (v : Value) (w' : World) : Prop :=
  (∀ c, op ≠ .defer c) ∧ ∀ d pos af g, (execOp E ⟨d, op, ty, pos, af, g⟩).run P w = .ok (.value v) w'

section
variable {P : Program} {b : Frame} {cs : List Frame} {fin : Machine → Prop} {n : Nat} {all : Array Oper} {rest : List Oper} {k : List Item} {ρ : Env} {ds : List Deferred} {w w' : World}
  {d : Nat} {op : Op} {ty : TypeId} {pos : String} {af : Array Edge} {g : Option (Nat × Bool)} {v : Value}

theorem l_x (hg : gOk all n ρ g = true) (hx : X P (ev n ρ) op ty w v w') (h : RunL P b cs fin n all rest k (upd ρ d v) ds w') :
    RunL P b cs fin n all (⟨some d, op, ty, pos, af, g⟩ :: rest) k ρ ds w := l_value hg hx.1 (hx.2 ..) h
end

section
variable {P : Program} {E : Operand → Value} {w : World} {ty : TypeId} {x y : Operand} {T T' : TypeId} {a c : Int}

theorem x_move : X P E (.move x) ty w (E x) w := ⟨nofun, fun _ _ _ _ => rfl⟩
theorem x_assign : X P E (.assign x) ty w (E x) w := ⟨nofun, fun _ _ _ _ => rfl⟩
/-- The operand's value, looked up. -/
theorem x_mv {v : Value} (h : E x = v) : X P E (.move x) ty w v w := h ▸ x_move
theorem x_as {v : Value} (h : E x = v) : X P E (.assign x) ty w v w := h ▸ x_assign

theorem x_pick_t {z u : Operand} {v : Value} (h : E z = .bool true) (hv : E x = v) : X P E (.pick z x u) ty w v w := ⟨nofun, fun _ _ _ _ => by simp [execOp, h, asBool, hv, go_sem]⟩
theorem x_pick_f {z u : Operand} {v : Value} (h : E z = .bool false) (hv : E u = v) : X P E (.pick z x u) ty w v w := ⟨nofun, fun _ _ _ _ => by simp [execOp, h, asBool, hv, go_sem]⟩

/-- Two integers' operation, as a function. -/
def iop (op : BinOp) (k : IntKind) (a c : Int) : Option Value :=
  match op with
  | .add => some (.int k (k.wrap (a + c)))
  | .sub => some (.int k (k.wrap (a - c)))
  | .mul => some (.int k (k.wrap (a * c)))
  | .eql => some (.bool (a == c))
  | .neq => some (.bool (a != c))
  | .lss => some (.bool (decide (a < c)))
  | .leq => some (.bool (decide (a ≤ c)))
  | .gtr => some (.bool (decide (a > c)))
  | .geq => some (.bool (decide (a ≥ c)))
  | _ => none

theorem x_iop {op : BinOp} {k : IntKind} {v : Value} (hx : E x = .int k a) (hy : E y = .int k c) (hv : iop op k a c = some v) : X P E (.binOp op T x y T') ty w v w := by
  refine ⟨nofun, fun _ _ _ _ => ?_⟩
  cases op <;> simp [iop] at hv <;> subst hv <;> simp [execOp, hx, hy, binOp, eqGuard, Op.intArith, Op.intCmp, go_sem]

theorem x_add (hx : E x = .int .i64 a) (hy : E y = .int .i64 c) (hb : -9223372036854775808 ≤ a + c ∧ a + c ≤ 9223372036854775807) : X P E (.binOp .add T x y T') ty w (.int .i64 (a + c)) w :=
  x_iop hx hy (by simp only [iop]; rw [IntWalk.i64_in _ hb])
theorem x_sub (hx : E x = .int .i64 a) (hy : E y = .int .i64 c) (hb : -9223372036854775808 ≤ a - c ∧ a - c ≤ 9223372036854775807) : X P E (.binOp .sub T x y T') ty w (.int .i64 (a - c)) w :=
  x_iop hx hy (by simp only [iop]; rw [IntWalk.i64_in _ hb])
theorem x_mul (hx : E x = .int .i64 a) (hy : E y = .int .i64 c) (hb : -9223372036854775808 ≤ a * c ∧ a * c ≤ 9223372036854775807) : X P E (.binOp .mul T x y T') ty w (.int .i64 (a * c)) w :=
  x_iop hx hy (by simp only [iop]; rw [IntWalk.i64_in _ hb])
theorem x_lss {k : IntKind} (hx : E x = .int k a) (hy : E y = .int k c) : X P E (.binOp .lss T x y T') ty w (.bool (decide (a < c))) w := x_iop hx hy rfl
theorem x_leq {k : IntKind} (hx : E x = .int k a) (hy : E y = .int k c) : X P E (.binOp .leq T x y T') ty w (.bool (decide (a ≤ c))) w := x_iop hx hy rfl
theorem x_gtr {k : IntKind} (hx : E x = .int k a) (hy : E y = .int k c) : X P E (.binOp .gtr T x y T') ty w (.bool (decide (c < a))) w := x_iop hx hy rfl
theorem x_geq {k : IntKind} (hx : E x = .int k a) (hy : E y = .int k c) : X P E (.binOp .geq T x y T') ty w (.bool (decide (c ≤ a))) w := x_iop hx hy rfl
theorem x_eql {k : IntKind} (hx : E x = .int k a) (hy : E y = .int k c) : X P E (.binOp .eql T x y T') ty w (.bool (decide (a = c))) w := x_iop hx hy rfl
theorem x_neq {k : IntKind} (hx : E x = .int k a) (hy : E y = .int k c) : X P E (.binOp .neq T x y T') ty w (.bool (decide (a ≠ c))) w :=
  x_iop hx hy (by simp only [iop]; congr 2; rw [Bool.eq_iff_iff]; simp)

theorem x_quo (hx : E x = .int .i64 a) (hy : E y = .int .i64 c) (hb : 0 ≤ a ∧ 0 < c ∧ a ≤ 9223372036854775807) : X P E (.binOp .quo T x y T') ty w (.int .i64 (a / c)) w := by
  refine ⟨nofun, fun _ _ _ _ => ?_⟩
  have h0 : c ≠ 0 := by omega
  have e : IntKind.i64.wrap (a.tdiv c) = a / c := by
    rw [Int.tdiv_eq_ediv_of_nonneg hb.1]
    have h1 : a / c ≤ a := Int.ediv_le_self _ hb.1
    have h2 : 0 ≤ a / c := Int.ediv_nonneg hb.1 (by omega)
    exact IntWalk.i64_in _ (by omega)
  simp [execOp, hx, hy, binOp, eqGuard, Op.intDiv, go_sem, h0, e]
theorem x_rem (hx : E x = .int .i64 a) (hy : E y = .int .i64 c) (hb : 0 ≤ a ∧ 0 < c) : X P E (.binOp .rem T x y T') ty w (.int .i64 (a % c)) w := by
  refine ⟨nofun, fun _ _ _ _ => ?_⟩
  have h0 : c ≠ 0 := by omega
  have e : a.tmod c = a % c := Int.tmod_eq_emod_of_nonneg hb.1
  simp [execOp, hx, hy, binOp, eqGuard, Op.intDiv, go_sem, h0, e]

theorem x_not {t : Bool} (hx : E x = .bool t) : X P E (.unOp .not T x) ty w (.bool !t) w := ⟨nofun, fun _ _ _ _ => by simp [execOp, hx, Op.unary, go_sem]⟩
theorem x_neg (hx : E x = .int .i64 a) (hb : -9223372036854775808 ≤ -a ∧ -a ≤ 9223372036854775807) : X P E (.unOp .neg T x) ty w (.int .i64 (-a)) w :=
  ⟨nofun, fun _ _ _ _ => by simp [execOp, hx, Op.unary, Op.intArith, go_sem, IntWalk.i64_in _ hb]⟩

theorem run_equal_bool {p q : Bool} (hu : ∀ w, (underlying T).run P w = .ok .bool w) : (Op.equal T (.bool p) (.bool q)).run P w = .ok (p == q) w := by
  unfold Op.equal
  obtain ⟨m, hm⟩ : ∃ m, Op.maxDepth = m + 1 := ⟨9999, rfl⟩
  rw [hm]
  simp only [Op.equalIn, Sem.run_bind, hu, Result.andThen_ok]
  rfl
theorem x_beq {p q : Bool} (hu : ∀ w, (underlying T).run P w = .ok .bool w) (hx : E x = .bool p) (hy : E y = .bool q) : X P E (.binOp .eql T x y T') ty w (.bool (p == q)) w :=
  ⟨nofun, fun _ _ _ _ => by
    have h := run_equal_bool (P := P) (w := w) (p := p) (q := q) hu
    simp only [execOp, hx, hy, Sem.run_bind]
    rw [show (eqGuard .eql T x y (.bool p) (.bool q)).run P w = .ok () w from rfl]
    simp only [Result.andThen_ok, binOp, Sem.run_bind, h, Sem.run_pure]⟩
theorem x_bne {p q : Bool} (hu : ∀ w, (underlying T).run P w = .ok .bool w) (hx : E x = .bool p) (hy : E y = .bool q) : X P E (.binOp .neq T x y T') ty w (.bool (p != q)) w :=
  ⟨nofun, fun _ _ _ _ => by
    have h := run_equal_bool (P := P) (w := w) (p := p) (q := q) hu
    simp only [execOp, hx, hy, Sem.run_bind]
    rw [show (eqGuard .neq T x y (.bool p) (.bool q)).run P w = .ok () w from rfl]
    simp only [Result.andThen_ok, binOp, Sem.run_bind, h, Sem.run_pure]
    rfl⟩

theorem x_extract {vs : Array Value} {i : Nat} {v : Value} (hx : E x = .tuple vs) (hi : vs[i]? = some v) : X P E (.extract x i) ty w v w :=
  ⟨nofun, fun _ _ _ _ => by simp [execOp, hx, Instr.extract, hi, go_sem]⟩
theorem x_makeFunc {fn : Go.Fn} {first cap : Array Operand} {v : Value} (hv : .func fn (first.map E) (cap.map E) = v) : X P E (.makeFunc fn first cap) ty w v w :=
  ⟨nofun, fun _ _ _ _ => by simp only [execOp, Instr.makeFunc]; rw [hv]; rfl⟩
theorem x_nilCheck {a : Addr} (hx : E x = .pointer (some a)) : X P E (.nilCheck x) ty w (.pointer (some a)) w :=
  ⟨nofun, fun _ _ _ _ => by simp [execOp, hx, go_sem]⟩

/-! memory that is read -/

/-- A variable of type T at a holds v. -/
def Ld (P : Program) (T : TypeId) (a : Addr) (w : World) (v : Value) : Prop := (loadVar T a).run P w = .ok v w

theorem x_load {a : Addr} {v : Value} (hx : E x = .pointer (some a)) (h : Ld P T a w v) : X P E (.load T x) ty w v w :=
  ⟨nofun, fun _ _ _ _ => by
    unfold Ld at h
    simp only [execOp, hx, Instr.loadAt, Instr.sureAddr, Sem.run_bind, Sem.run_pure, Result.andThen_ok, h]⟩

theorem ld_cell {a : Addr} {v : Value} (hA : ∀ w, (isAgg T).run P w = .ok false w) (h : w.cell? a = some v) : Ld P T a w v := by
  unfold Ld loadVar
  simp [go_sem, hA, h]

theorem addr_add (b o j : Nat) : (⟨b, o, none⟩ : Addr).add j = ⟨b, o + j, none⟩ := by
  unfold Addr.add
  split
  · rename_i h; subst h; rfl
  · rfl

theorem ld_row {b o s : Nat} {c : List Value} (hA : ∀ w, (isAgg T).run P w = .ok true w) (hS : ∀ w, (sizeOf T).run P w = .ok s w) (hl : c.length = s) (h : Row w b o c) :
    Ld P T ⟨b, o, none⟩ w (.agg c.toArray) := by
  have := run_loadCells_list (P := P) w ⟨b, o, none⟩ c (fun j v hj => by rw [addr_add]; exact h j v hj)
  subst hl
  unfold Ld loadVar
  simp only [Sem.run_bind, hA, Result.andThen_ok, if_true, hS, this, Sem.run_pure]

theorem Blk.row {w : World} {b : Nat} {c : List Value} {T : TypeId} (h : Blk w b c T) : Row w b 0 c := fun j x hx => by rw [Nat.zero_add]; exact h.cell hx
theorem Blk.rowAt {w : World} {b : Nat} {c : List Value} {T : TypeId} (h : Blk w b c T) {o : Nat} {c' : List Value} (hc : ∀ j x, c'[j]? = some x → c[o + j]? = some x) : Row w b o c' :=
  fun j x hx => h.cell (hc j x hx)

theorem ld_blk {b o : Nat} {c : List Value} {T0 : TypeId} {v : Value} (h : Blk w b c T0) (hA : ∀ w, (isAgg T).run P w = .ok false w) (hv : c[o]? = some v) : Ld P T ⟨b, o, none⟩ w v :=
  ld_cell hA (h.cell hv)
theorem ld_blks {b o s : Nat} {c c' : List Value} {T0 : TypeId} (h : Blk w b c T0) (hA : ∀ w, (isAgg T).run P w = .ok true w) (hS : ∀ w, (sizeOf T).run P w = .ok s w) (hc : (c.drop o).take s = c') (hl : c'.length = s) :
    Ld P T ⟨b, o, none⟩ w (.agg c'.toArray) := by
  refine ld_row hA hS hl (h.rowAt fun j x hx => ?_)
  subst hc
  rw [List.getElem?_take] at hx
  split at hx
  · rw [List.getElem?_drop] at hx; exact hx
  · cases hx

theorem x_fieldAddr {b o : Nat} {i : Nat} {fs : Array Field} {f : Field} {s : Nat} (hx : E x = .pointer (some ⟨b, o, none⟩)) (hu : ∀ w, (underlying T).run P w = .ok (.struct fs) w) (hf : fs[i]? = some f)
    (hs : ∀ w, (sizeOf f.type).run P w = .ok s w) (h0 : s ≠ 0) : X P E (.fieldAddr T x i) ty w (.pointer (some ⟨b, o + f.offset, none⟩)) w :=
  ⟨nofun, fun _ _ _ _ => by simp [execOp, hx, Instr.fieldAt, Instr.sureAddr, go_sem, hu, hf, fieldPlace, hs, h0, addr_add]⟩

theorem x_indexAddr_slice {b o len cap s : Nat} {i : Int} {e : TypeId} (hx : E x = .slice (some ⟨b, o, none⟩) len cap) (hy : E y = .int .i64 i) (hu : ∀ w, (underlying T).run P w = .ok (.slice e) w)
    (hs : ∀ w, (sizeOf e).run P w = .ok s w) (hb : 0 ≤ i ∧ i < len) : X P E (.indexAddr T x y) ty w (.pointer (some ⟨b, o + i.toNat * s, none⟩)) w :=
  ⟨nofun, fun _ _ _ _ => by simp [execOp, hx, hy, Instr.indexAt, asIntOf, go_sem, hu, hs, hb, addr_add]⟩

theorem x_indexAddr_array {b o len s : Nat} {i : Int} {e : TypeId} (hx : E x = .pointer (some ⟨b, o, none⟩)) (hy : E y = .int .i64 i) (hu : ∀ w, (underlying T).run P w = .ok (.array len e) w)
    (hs : ∀ w, (sizeOf e).run P w = .ok s w) (hb : 0 ≤ i ∧ i < len) : X P E (.indexAddr T x y) ty w (.pointer (some ⟨b, o + i.toNat * s, none⟩)) w :=
  ⟨nofun, fun _ _ _ _ => by simp [execOp, hx, hy, Instr.indexAt, Instr.sureAddr, asIntOf, go_sem, hu, hs, hb, addr_add]⟩

theorem x_len_slice {p : Option Addr} {len cap : Nat} {e : TypeId} {A : TypeId} (hx : E x = .slice p len cap) (hu : ∀ w, (underlying A).run P w = .ok (.slice e) w) :
    X P E (.call ⟨.builtin .len, #[x], #[A]⟩) ty w (.int .i64 len) w :=
  ⟨nofun, fun _ _ _ _ => by simp [execOp, hx, resolve, invoke, builtin, Builtin.len_, go_sem, hu, goInt]⟩

/-- An element's place. -/
def At {α : Type} (E : Elt α) (v : Value) (i : Nat) (a : Addr) : Prop := ∃ b o len cap, v = .slice (some ⟨b, o, none⟩) len cap ∧ a = ⟨b, o + i * E.sz, none⟩

theorem x_indexAddr {α : Type} {L : Elt α} {v : Value} {l : List α} {i : Int} {q : α} (hr : Rd L w v l) (hx : E x = v) (hy : E y = .int .i64 i) (hu : ∀ w, (underlying T).run P w = .ok (.slice L.T) w)
    (hs : ∀ w, (sizeOf L.T).run P w = .ok L.sz w) (hb : 0 ≤ i) (hi : l[i.toNat]? = some q) : ∃ a, At L v i.toNat a ∧ Row w a.block a.off (L.enc q) ∧ a.spot = none ∧ X P E (.indexAddr T x y) ty w (.pointer (some a)) w := by
  obtain ⟨p, cap, rfl, hc, h⟩ := hr
  obtain ⟨b, o, rfl, hrow⟩ := h i.toNat q hi
  have hlt : i.toNat < l.length := (List.getElem?_eq_some_iff.1 hi).1
  exact ⟨⟨b, o + i.toNat * L.sz, none⟩, ⟨b, o, _, _, rfl, rfl⟩, hrow, rfl, x_indexAddr_slice hx hy hu hs ⟨hb, by omega⟩⟩

end

section
variable {P : Program} {b : Frame} {cs : List Frame} {fin : Machine → Prop} {n : Nat} {all : Array Oper} {rest : List Oper} {k : List Item} {ρ : Env} {ds : List Deferred} {w w' : World}
  {d : Nat} {ty : TypeId} {pos : String} {af : Array Edge} {g : Option (Nat × Bool)} {T : TypeId} {x y : Operand}

/-- The place of a slice's element. -/
theorem l_index {α : Type} (L : Elt α) {v : Value} {l : List α} {i : Int} {q : α} (hg : gOk all n ρ g = true) (hr : Rd L w v l) (hx : ev n ρ x = v) (hy : ev n ρ y = .int .i64 i)
    (hu : ∀ w, (underlying T).run P w = .ok (.slice L.T) w) (hs : ∀ w, (sizeOf L.T).run P w = .ok L.sz w) (hb : 0 ≤ i) (hi : l[i.toNat]? = some q)
    (h : ∀ b' o', At L v i.toNat ⟨b', o', none⟩ → Row w b' o' (L.enc q) → RunL P b cs fin n all rest k (upd ρ d (.pointer (some ⟨b', o', none⟩))) ds w) :
    RunL P b cs fin n all (⟨some d, .indexAddr T x y, ty, pos, af, g⟩ :: rest) k ρ ds w := by
  obtain ⟨⟨b', o', sp⟩, h1, h2, h3, h4⟩ := x_indexAddr (E := ev n ρ) (ty := ty) hr hx hy hu hs hb hi
  cases h3
  exact l_x hg h4 (h b' o' h1 h2)

theorem run_newVar {T : TypeId} {v : Value} : (newVar T v).run P w = .ok ⟨w.heap.size, 0, none⟩ (w.alloc (.cells v.cells T)) := by
  simp [newVar, newRow, go_sem]

/-- A variable in new memory with a value: 'box'. -/
theorem l_box {X : Nat → Prop} {w0 : World} {L : List Rsc} {c : List Value} (S : Own X w0 w L) (hg : gOk all n ρ g = true) (hx : (ev n ρ x).cells = c.toArray)
    (h : ∀ b' w', Own X w0 w' (L ++ [blk b' c T]) → Le w w' → RunL P b cs fin n all rest k (upd ρ d (.pointer (some ⟨b', 0, none⟩))) ds w') :
    RunL P b cs fin n all (⟨some d, .box T x, ty, pos, af, g⟩ :: rest) k ρ ds w := by
  refine l_x hg (v := .pointer (some ⟨w.heap.size, 0, none⟩)) (w' := w.alloc (.cells c.toArray T (0, 0))) ⟨nofun, fun _ _ _ _ => ?_⟩ (h _ _ (S.alloc c T) (Le.alloc_cells _ _ _))
  simp only [execOp, Instr.box, Sem.run_bind, run_newVar, Result.andThen_ok, Sem.run_pure, hx]

/-- A zero variable in new memory: 'alloc'. -/
theorem l_alloc {X : Nat → Prop} {w0 : World} {L : List Rsc} {c : List Value} {z : Value} (S : Own X w0 w L) (hg : gOk all n ρ g = true) (hz : ∀ w, (zeroValue T).run P w = .ok z w) (hx : z.cells = c.toArray)
    (h : ∀ b' w', Own X w0 w' (L ++ [blk b' c T]) → Le w w' → RunL P b cs fin n all rest k (upd ρ d (.pointer (some ⟨b', 0, none⟩))) ds w') :
    RunL P b cs fin n all (⟨some d, .alloc T, ty, pos, af, g⟩ :: rest) k ρ ds w := by
  refine l_x hg (v := .pointer (some ⟨w.heap.size, 0, none⟩)) (w' := w.alloc (.cells c.toArray T (0, 0))) ⟨nofun, fun _ _ _ _ => ?_⟩ (h _ _ (S.alloc c T) (Le.alloc_cells _ _ _))
  simp only [execOp, Instr.alloc, Sem.run_bind, hz, run_newVar, Result.andThen_ok, Sem.run_pure, hx]

/-- A list of cells written over a part of a block. -/
def splice (c : List Value) (o : Nat) (vs : List Value) : List Value := c.take o ++ vs ++ c.drop (o + vs.length)

theorem splice_one {c : List Value} {o : Nat} {v : Value} (h : o < c.length) : splice c o [v] = c.set o v := by
  rw [splice, List.set_eq_take_append_cons_drop, if_pos h]; simp
theorem splice_all {c vs : List Value} (h : c.length = vs.length) : splice c 0 vs = vs := by
  rw [splice, Nat.zero_add, ← h]; simp
theorem splice_length {c vs : List Value} {o : Nat} (h : o + vs.length ≤ c.length) : (splice c o vs).length = c.length := by
  simp only [splice, List.length_append, List.length_take, List.length_drop]; omega

theorem Keep.setRow {b' : Nat} (w : World) (cs' : Array Value) : Keep (· = b') w (w.setRow b' cs') :=
  ⟨rfl, rfl, rfl, by simp, fun i _ h => setRow_other w b' i _ h⟩

theorem Own.setRow {X : Nat → Prop} {w0 : World} {L : List Rsc} {b' : Nat} {c : List Value} {T0 : TypeId} (S : Own X w0 w L) (j : Nat) (hj : L[j]? = some (Vk.blk b' c T0)) (c' : List Value) :
    Own X w0 (w.setRow b' c'.toArray) (L.set j (Vk.blk b' c' T0)) :=
  S.turn j hj (Keep.setRow w _) (fun _ _ h => h) (setRow_heap w b' _ c'.toArray T0 _ (S.blk j hj)) (fun _ h => .inl h)

/-- A store into a block that is owned. -/
theorem l_stores {X : Nat → Prop} {w0 : World} {L : List Rsc} {b' o : Nat} {c vs c' : List Value} {T0 : TypeId} {d' : Option Nat} (S : Own X w0 w L) (j : Nat) (hj : L[j]? = some (blk b' c T0)) (hg : gOk all n ρ g = true)
    (hx : ev n ρ x = .pointer (some ⟨b', o, none⟩)) (hy : (ev n ρ y).cells = vs.toArray) (h1 : ∀ v ∈ vs, v.oneCell' = true) (hs : ∀ w, (sizeOf T).run P w = .ok vs.length w) (ho : o + vs.length ≤ c.length)
    (hc : splice c o vs = c')
    (h : ∀ w', Own X w0 w' (L.set j (blk b' c' T0)) → Keep (· = b') w w' → RunL P b cs fin n all rest k (updO d' undef ρ) ds w') :
    RunL P b cs fin n all (⟨d', .store T x y, ty, pos, af, g⟩ :: rest) k ρ ds w := by
  subst hc
  refine l_skip hg nofun (w' := w.setRow b' (splice c o vs).toArray) ?_ (h _ (S.setRow j hj _) (Keep.setRow w _))
  have hr := run_storeCells_at P b' o T0 vs 0 c.toArray w (S.blk j hj) (by simpa using ho) h1
  simp only [execOp, hx, Instr.storeAt, Instr.sureAddr, Sem.run_bind, Sem.run_pure, Result.andThen_ok, storeVar, hs]
  rw [hy]
  simp only [List.size_toArray, ne_eq, not_true_eq_false, if_false]
  rw [hr]
  simp only [Result.andThen_ok, Nat.add_zero]
  rfl

/-- A store of one cell into a block that is owned. -/
theorem l_store {X : Nat → Prop} {w0 : World} {L : List Rsc} {b' o : Nat} {c : List Value} {T0 : TypeId} {v : Value} {d' : Option Nat} (S : Own X w0 w L) (j : Nat) (hj : L[j]? = some (blk b' c T0)) (hg : gOk all n ρ g = true)
    (hx : ev n ρ x = .pointer (some ⟨b', o, none⟩)) (hy : ev n ρ y = v) (h1 : v.oneCell' = true) (hs : ∀ w, (sizeOf T).run P w = .ok 1 w) (ho : o < c.length)
    (h : ∀ w', Own X w0 w' (L.set j (blk b' (c.set o v) T0)) → Keep (· = b') w w' → RunL P b cs fin n all rest k (updO d' undef ρ) ds w') :
    RunL P b cs fin n all (⟨d', .store T x y, ty, pos, af, g⟩ :: rest) k ρ ds w := by
  have hcs : v.cells = #[v] := by cases v <;> first | rfl | simp [Value.oneCell'] at h1
  exact l_stores S j hj hg hx (vs := [v]) (by rw [hy, hcs]) (by simpa using h1) hs (by simp only [List.length_singleton]; omega) (splice_one ho) h

end
end Go.Vk
