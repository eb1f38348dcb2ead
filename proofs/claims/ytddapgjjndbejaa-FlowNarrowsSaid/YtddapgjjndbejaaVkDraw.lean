/- The proof engine, part 4: regions that draw their order. Generic over the program. -/
import Derived.Test.YtddapgjjndbejaaVkOps
import Derived.Still
namespace Go.Vk
open Go

/-- What an operation does, carried out in a world: a value, or a call's result. -/
def Sp (P : Program) (all : Array Oper) (n : Nat) (ρ : Env) (o : Oper) (w : World) (Φ : Value → World → Prop) : Prop :=
  if gOk all n ρ o.guard = true then
    (∀ c, o.op ≠ .defer c) ∧ ((∃ v w', (execOp (ev n ρ) o).run P w = .ok (.value v) w' ∧ Φ v w') ∨ (∃ f args w', (execOp (ev n ρ) o).run P w = .ok (.enter f args) w' ∧ Cl P f args w' Φ) ∨ (∃ w', (execOp (ev n ρ) o).run P w = .ok .skip w' ∧ Φ undef w'))
  else Φ undef w

theorem Sp.mono {P : Program} {all : Array Oper} {n : Nat} {ρ : Env} {o : Oper} {w : World} {Φ Ψ : Value → World → Prop} (h : Sp P all n ρ o w Φ) (hm : ∀ v w', Φ v w' → Ψ v w') : Sp P all n ρ o w Ψ := by
  unfold Sp at *
  split
  · rename_i hg
    rw [if_pos hg] at h
    refine ⟨h.1, h.2.imp (fun ⟨v, w', h1, h2⟩ => ⟨v, w', h1, hm _ _ h2⟩) (fun h => h.imp (fun ⟨f, args, w', h1, h2⟩ => ⟨f, args, w', h1, h2.mono hm⟩) (fun ⟨w', h1, h2⟩ => ⟨w', h1, hm _ _ h2⟩))⟩
  · rename_i hg
    rw [if_neg hg] at h
    exact hm _ _ h

/-- The slots that an operation looks at. -/
def looks (all : Array Oper) (o : Oper) : List Nat :=
  (o.op.operands.toList.filterMap fun | .tmp t => some t | _ => none) ++
  (match o.guard with
   | some (g, _) => ((all[g]?).bind (·.dst)).toList
   | none => [])

theorem ev_upd {n : Nat} {ρ : Env} {d : Nat} {v : Value} {x : Operand} (h : x ≠ .tmp d) : ev n (upd ρ d v) x = ev n ρ x := by
  cases x with
  | tmp t =>
    have : t ≠ d := fun e => h (by rw [e])
    simp only [ev, upd_other this]
  | _ => rfl

theorem gOk_updO {all : Array Oper} {n : Nat} {ρ : Env} {o : Oper} {dst : Option Nat} {v : Value} (h : ∀ d, dst = some d → d ∉ looks all o) : gOk all n (updO dst v ρ) o.guard = gOk all n ρ o.guard := by
  cases dst with
  | none => rfl
  | some d =>
    have hd := h d rfl
    unfold gOk
    cases hg : o.guard with
    | none => rfl
    | some g =>
      obtain ⟨j, want⟩ := g
      cases hj : (all[j]?).bind (·.dst) with
      | none => simp only [hj]
      | some t =>
        have hne : t ≠ d := fun e => hd (by simp [looks, hg, hj, e])
        simp only [hj, updO, upd_other hne]

theorem exec_updO {all : Array Oper} {n : Nat} {ρ : Env} {o : Oper} {dst : Option Nat} {v : Value} (hs : ∀ cs b, o.op ≠ .select cs b) (h : ∀ d, dst = some d → d ∉ looks all o) :
    execOp (ev n (updO dst v ρ)) o = execOp (ev n ρ) o := by
  cases dst with
  | none => rfl
  | some d =>
    refine execOp_congr o hs fun x hx => ev_upd fun e => h d rfl ?_
    exact List.mem_append_left _ (List.mem_filterMap.2 ⟨x, by simpa using hx, by rw [e]⟩)

theorem Sp.congr {P : Program} {all : Array Oper} {n : Nat} {ρ : Env} {o : Oper} {w : World} {Φ : Value → World → Prop} {dst : Option Nat} {v : Value} (hs : ∀ cs b, o.op ≠ .select cs b)
    (hd : ∀ d, dst = some d → d ∉ looks all o) : Sp P all n (updO dst v ρ) o w Φ ↔ Sp P all n ρ o w Φ := by
  unfold Sp
  rw [gOk_updO hd, exec_updO hs hd]

theorem updO_comm (ρ : Env) {d e : Option Nat} (v u : Value) (h : ∀ t, d = some t → e ≠ some t) : updO e u (updO d v ρ) = updO d v (updO e u ρ) := by
  cases d with
  | none => rfl
  | some d =>
    cases e with
    | none => rfl
    | some e =>
      have hne : d ≠ e := fun q => h d rfl (by rw [q])
      funext t
      simp only [updO]
      by_cases h1 : t = d
      · subst h1; rw [upd_same, upd_other hne, upd_same]
      · by_cases h2 : t = e
        · subst h2; rw [upd_same, upd_other h1, upd_same]
        · rw [upd_other h2, upd_other h1, upd_other h1, upd_other h2]

def isSel (o : Oper) : Bool := match o.op with | .select _ _ => true | _ => false
theorem not_sel {o : Oper} (h : isSel o = false) : ∀ cs b, o.op ≠ .select cs b := fun cs b e => by simp [isSel, e] at h

/-- The operations that this one waits for. -/
def waits (o : Oper) : List Nat := (o.after.toList.filter fun e => Region.binds .any e).map (·.on)

/-- All that comes before operation i, by what waits for what. -/
def anc (ops : Array Oper) : Nat → Nat → List Nat
  | 0, _ => []
  | f + 1, i => match ops[i]? with
    | some o => (waits o).flatMap fun j => j :: anc ops f j
    | none => []

/-- Two operations that have nothing to do with each other. -/
def apartB (ops : Array Oper) (x y : Oper) : Bool :=
  (match x.dst with
   | some d => !(looks ops y).contains d && y.dst != some d
   | none => true) &&
  (match y.dst with
   | some d => !(looks ops x).contains d
   | none => true)

/-- The first m operations may come in whatever order their edges allow; those behind them come last, one after the other. -/
def drawOk (ops : Array Oper) (m : Nat) : Bool :=
  decide (m ≤ ops.size) &&
  ((List.range ops.size).all fun i => match ops[i]? with | some o => (waits o).all (fun j => decide (j < i)) && !isSel o | none => false) &&
  ((List.range ops.size).all fun j => decide (j < m) || (List.range j).all fun i => (anc ops (ops.size + 1) j).contains i) &&
  ((List.range m).all fun i => (List.range m).all fun j => i == j || match ops[i]?, ops[j]? with
    | some x, some y => (waits y).contains i || (waits x).contains j || apartB ops x y
    | _, _ => false)

structure DrawOk (ops : Array Oper) (m : Nat) : Prop where
  le : m ≤ ops.size
  back : ∀ (i : Nat) (o : Oper), ops[i]? = some o → ∀ j ∈ waits o, j < i
  sel : ∀ (i : Nat) (o : Oper), ops[i]? = some o → isSel o = false
  tail : ∀ j, m ≤ j → j < ops.size → ∀ i, i < j → i ∈ anc ops (ops.size + 1) j
  apart : ∀ (i j : Nat) (x y : Oper), i < m → j < m → i ≠ j → ops[i]? = some x → ops[j]? = some y → i ∈ waits y ∨ j ∈ waits x ∨ apartB ops x y = true

theorem drawOk_spec {ops : Array Oper} {m : Nat} (h : drawOk ops m = true) : DrawOk ops m := by
  simp only [drawOk, Bool.and_eq_true, decide_eq_true_eq, List.all_eq_true, List.mem_range, Bool.or_eq_true] at h
  obtain ⟨⟨⟨h1, h2⟩, h3⟩, h4⟩ := h
  refine ⟨h1, ?_, ?_, ?_, ?_⟩
  · intro i o ho j hj
    have hi : i < ops.size := (Array.getElem?_eq_some_iff.1 ho).1
    have := h2 i hi
    rw [ho] at this
    simp only [Bool.and_eq_true, List.all_eq_true, decide_eq_true_eq] at this
    exact this.1 j hj
  · intro i o ho
    have hi : i < ops.size := (Array.getElem?_eq_some_iff.1 ho).1
    have := h2 i hi
    rw [ho] at this
    simpa using (Bool.and_eq_true_iff.1 this).2
  · intro j hmj hj i hi
    rcases h3 j hj with h | h
    · omega
    · simpa using h i hi
  · intro i j x y hi hj hne hx hy
    have := h4 i hi j hj
    rw [hx, hy] at this
    rcases this with h | h
    · simp at h; exact absurd h hne
    · simp only [Bool.or_eq_true, List.contains_iff_mem] at h
      rcases h with (h | h) | h
      · exact .inl h
      · exact .inr (.inl h)
      · exact .inr (.inr h)

theorem apartB_spec {ops : Array Oper} {x y : Oper} (h : apartB ops x y = true) :
    (∀ d, x.dst = some d → d ∉ looks ops y) ∧ (∀ d, x.dst = some d → y.dst ≠ some d) ∧ (∀ d, y.dst = some d → d ∉ looks ops x) := by
  refine ⟨fun d hd => ?_, fun d hd => ?_, fun d hd => ?_⟩ <;> simp [apartB, hd] at h
  · exact h.1.1
  · exact h.1.2
  · exact h.2

/-- Is operation i ready to come? -/
def rdy (ops : Array Oper) (listed : Array Bool) (i : Nat) : Bool :=
  !listed.getD i true && match ops[i]? with | some o => (waits o).all fun j => listed.getD j false | none => false

theorem mem_ready_iff {ops : Array Oper} {listed : Array Bool} {i : Nat} : i ∈ Region.ready .any ops listed ↔ rdy ops listed i = true := by
  rw [mem_ready]
  unfold rdy
  cases ho : ops[i]? with
  | none => simp
  | some o =>
    simp only [Option.some.injEq, exists_eq_left', Bool.and_eq_true, Bool.not_eq_true', List.all_eq_true, waits, List.mem_map, List.mem_filter, Array.mem_toList_iff]
    constructor
    · rintro ⟨h1, h2⟩
      exact ⟨h1, fun j ⟨e, ⟨he, hb⟩, hj⟩ => hj ▸ h2 e he hb⟩
    · rintro ⟨h1, h2⟩
      exact ⟨h1, fun e he hb => h2 e.on ⟨e, ⟨he, hb⟩, rfl⟩⟩

section
variable {P : Program} {b : Frame} {cs : List Frame} {fin : Machine → Prop} {n : Nat} {k : List Item} {ρ : Env} {ds : List Deferred} {w w' : World} {ops : Array Oper} {m : Nat}

/-- Whatever order is picked from here on, at most f of the first m operations being still to come; K holds behind them. Closed under growth of memory. -/
def AnyC (P : Program) (n : Nat) (ops : Array Oper) (m : Nat) (K : Env → World → Prop) : Nat → Array Bool → Env → World → Prop
  | 0, listed, ρ, w => ∀ w1, Le w w1 → ((∀ i, i < m → listed.getD i true = true) → K ρ w1) ∧ ∀ (i : Nat), i < m → rdy ops listed i = false
  | f + 1, listed, ρ, w => ∀ w1, Le w w1 → ((∀ i, i < m → listed.getD i true = true) → K ρ w1) ∧ ∀ (i : Nat) (o : Oper), i < m → ops[i]? = some o → rdy ops listed i = true →
      Sp P ops n ρ o w1 fun v w2 => Le w1 w2 ∧ AnyC P n ops m K f (listed.setIfInBounds i true) (updO o.dst v ρ) w2

theorem AnyC.le {K : Env → World → Prop} {f : Nat} {listed : Array Bool} (h : AnyC P n ops m K f listed ρ w) (hw : Le w w') : AnyC P n ops m K f listed ρ w' := by
  cases f with
  | zero => exact fun w'' h' => h w'' (hw.trans h')
  | succ f => exact fun w1 h1 => h w1 (hw.trans h1)

theorem AnyC.done {K : Env → World → Prop} {f : Nat} {listed : Array Bool} (h : AnyC P n ops m K f listed ρ w) (hl : ∀ i, i < m → listed.getD i true = true) : K ρ w := by
  cases f with
  | zero => exact (h w (Le.refl w)).1 hl
  | succ f => exact (h w (Le.refl w)).1 hl

theorem AnyC.next {K : Env → World → Prop} {f : Nat} {listed : Array Bool} {i : Nat} {o : Oper} (h : AnyC P n ops m K f listed ρ w) (hi : i < m) (ho : ops[i]? = some o) (hr : rdy ops listed i = true) :
    ∃ g, Sp P ops n ρ o w fun v w2 => Le w w2 ∧ AnyC P n ops m K g (listed.setIfInBounds i true) (updO o.dst v ρ) w2 := by
  cases f with
  | zero => have := (h w (Le.refl w)).2 i hi; rw [hr] at this; cases this
  | succ f => exact ⟨f, (h w (Le.refl w)).2 i o hi ho hr⟩

theorem getD_set_other {listed : Array Bool} {i j : Nat} {dflt : Bool} (h : i ≠ j) : (listed.setIfInBounds i true).getD j dflt = listed.getD j dflt := by
  simp [Array.getD_eq_getD_getElem?, Array.getElem?_setIfInBounds_ne h]
theorem getD_set_mono {listed : Array Bool} {i j : Nat} {dflt : Bool} (h : listed.getD j dflt = true) : (listed.setIfInBounds i true).getD j dflt = true := by
  by_cases e : i = j
  · subst e
    rcases Nat.lt_or_ge i listed.size with h' | h'
    · simp [h']
    · simp [Array.getElem?_eq_none h'] at h ⊢; exact .inr h
  · rw [getD_set_other e]; exact h
theorem getD_both {listed : Array Bool} {i : Nat} (h : listed.getD i true = false) : listed.getD i false = false := by
  rcases Nat.lt_or_ge i listed.size with h' | h'
  · simp [h'] at h ⊢; exact h
  · simp [Array.getElem?_eq_none h'] at h

theorem rdy_spec {listed : Array Bool} {i : Nat} (h : rdy ops listed i = true) : listed.getD i true = false ∧ ∃ o, ops[i]? = some o ∧ ∀ j ∈ waits o, listed.getD j false = true := by
  unfold rdy at h
  simp only [Bool.and_eq_true, Bool.not_eq_true'] at h
  refine ⟨h.1, ?_⟩
  cases ho : ops[i]? with
  | none => rw [ho] at h; simp at h
  | some o => rw [ho] at h; exact ⟨o, rfl, by simpa using h.2⟩

theorem rdy_mk {listed : Array Bool} {i : Nat} {o : Oper} (h : listed.getD i true = false) (ho : ops[i]? = some o) (hw : ∀ j ∈ waits o, listed.getD j false = true) : rdy ops listed i = true := by
  unfold rdy
  rw [ho, h]
  simpa using hw

theorem rdy_other {listed : Array Bool} {i j : Nat} (hne : j ≠ i) (h : rdy ops listed j = true) : rdy ops (listed.setIfInBounds i true) j = true := by
  obtain ⟨h1, o, ho, h2⟩ := rdy_spec h
  exact rdy_mk (by rw [getD_set_other (Ne.symm hne)]; exact h1) ho fun x hx => getD_set_mono (h2 x hx)

/-- It yields v, in every later world, whatever else has come. -/
def Rigid (P : Program) (ops : Array Oper) (n : Nat) (ρ : Env) (o : Oper) (w : World) (v : Value) : Prop := ∀ w1, Le w w1 → Sp P ops n ρ o w1 fun u w2 => u = v ∧ Le w1 w2

theorem Rigid.le {o : Oper} {v : Value} (h : Rigid P ops n ρ o w v) (hw : Le w w') : Rigid P ops n ρ o w' v := fun w1 h1 => h w1 (hw.trans h1)

/-- A ready operation that yields its value whatever else has come may be taken first. -/
theorem AnyC.first {K : Env → World → Prop} {i : Nat} {oi : Oper} {v : Value} (hok : DrawOk ops m) (hi : ops[i]? = some oi) (him : i < m) :
    ∀ (f : Nat) (listed : Array Bool) (ρ : Env) (w : World), rdy ops listed i = true → Rigid P ops n ρ oi w v →
      AnyC P n ops m K f (listed.setIfInBounds i true) (updO oi.dst v ρ) w → AnyC P n ops m K (f + 1) listed ρ w := by
  intro f
  induction f with
  | zero =>
    intro listed ρ w hr hy H w1 h1
    refine ⟨fun hl => ?_, fun j oj hjm hj hrj => ?_⟩
    · have := (rdy_spec hr).1; rw [hl i him] at this; cases this
    · by_cases e : j = i
      · subst e
        have : oj = oi := Option.some.inj (hj.symm.trans hi)
        subst this
        exact (hy w1 h1).mono fun u w2 ⟨hu, h2⟩ => ⟨h2, hu ▸ AnyC.le (f := 0) H (h1.trans h2)⟩
      · have := (H w (Le.refl w)).2 j hjm
        rw [rdy_other e hrj] at this
        cases this
  | succ f ih =>
    intro listed ρ w hr hy H w1 h1
    refine ⟨fun hl => ?_, fun j oj hjm hj hrj => ?_⟩
    · have := (rdy_spec hr).1; rw [hl i him] at this; cases this
    · by_cases e : j = i
      · subst e
        have : oj = oi := Option.some.inj (hj.symm.trans hi)
        subst this
        exact (hy w1 h1).mono fun u w2 ⟨hu, h2⟩ => ⟨h2, hu ▸ AnyC.le (f := f + 1) H (h1.trans h2)⟩
      · have h2 := (H w1 h1).2 j oj hjm hj (rdy_other e hrj)
        have hap : apartB ops oi oj = true := by
          rcases hok.apart i j oi oj him hjm (Ne.symm e) hi hj with h | h | h
          · obtain ⟨_, o', ho', hw'⟩ := rdy_spec hrj
            have : o' = oj := Option.some.inj (ho'.symm.trans hj)
            subst this
            have := hw' i h
            rw [getD_both (rdy_spec hr).1] at this; cases this
          · obtain ⟨_, o', ho', hw'⟩ := rdy_spec hr
            have : o' = oi := Option.some.inj (ho'.symm.trans hi)
            subst this
            have := hw' j h
            rw [getD_both (rdy_spec hrj).1] at this; cases this
          · exact h
        obtain ⟨a1, a2, a3⟩ := apartB_spec hap
        rw [Sp.congr (not_sel (hok.sel j oj hj)) a1] at h2
        refine h2.mono fun u w2 ⟨h3, h4⟩ => ⟨h3, ?_⟩
        refine ih (listed.setIfInBounds j true) (updO oj.dst u ρ) w2 (rdy_other (Ne.symm e) hr) (fun w3 h5 => ?_) ?_
        · rw [Sp.congr (not_sel (hok.sel i oi hi)) a3]
          exact hy w3 (h1.trans (h3.trans h5))
        · rw [Array.setIfInBounds_comm _ _ e, ← updO_comm ρ v u a2]
          exact h4

/-! ### every order -/

theorem go_step (fuel t : Nat) (listed : Array Bool) : Region.linearise.go .any ops (fuel + 1) t listed [] =
    match (Region.ready .any ops listed)[t % (Region.ready .any ops listed).length]? with
    | some i => i :: Region.linearise.go .any ops fuel (t / (Region.ready .any ops listed).length) (listed.setIfInBounds i true) []
    | none => [] := by
  simp only [Region.linearise.go]
  change (match (Region.ready .any ops listed)[t % (Region.ready .any ops listed).length]? with
      | some i => Region.linearise.go .any ops fuel (t / (Region.ready .any ops listed).length) (listed.setIfInBounds i true) [i]
      | none => [].reverse) = _
  split
  · rw [linearise_go_acc]; rfl
  · rfl

theorem pick_some {l : List Nat} (h : l ≠ []) (t : Nat) : ∃ i, l[t % l.length]? = some i ∧ i ∈ l := by
  have hl : 0 < l.length := List.length_pos_iff.2 h
  have hlt := Nat.mod_lt t hl
  exact ⟨l[t % l.length], List.getElem?_eq_getElem hlt, List.getElem_mem hlt⟩

/-- The first operation that is not listed is ready. -/
theorem ready_first (hok : DrawOk ops m) {listed : Array Bool} (hs : listed.size = ops.size) {j : Nat} (hj : j < ops.size) (hl : listed.getD j true = false) (hb : ∀ i, i < j → listed.getD i true = true) :
    rdy ops listed j = true := by
  refine rdy_mk hl (Array.getElem?_eq_getElem hj) fun x hx => ?_
  have hxj := hok.back j _ (Array.getElem?_eq_getElem hj) x hx
  have := hb x hxj
  have hxs : x < listed.size := by omega
  simpa [hxs] using this

theorem exists_first {listed : Array Bool} : ∀ N, (∃ i, i < N ∧ listed.getD i true = false) → ∃ j, j < N ∧ listed.getD j true = false ∧ ∀ i, i < j → listed.getD i true = true := by
  intro N
  induction N with
  | zero => rintro ⟨i, h, _⟩; omega
  | succ N ih =>
    rintro ⟨i, h, hi⟩
    by_cases hN : ∃ i, i < N ∧ listed.getD i true = false
    · obtain ⟨j, h1, h2, h3⟩ := ih hN; exact ⟨j, by omega, h2, h3⟩
    · have hall : ∀ i, i < N → listed.getD i true = true := fun i hi => by
        cases e : listed.getD i true with
        | true => rfl
        | false => exact absurd ⟨i, hi, e⟩ hN
      have : i = N := by
        rcases Nat.lt_or_ge i N with h' | h'
        · rw [hall i h'] at hi; cases hi
        · omega
      subst this
      exact ⟨i, by omega, hi, hall⟩

structure Inv (ops : Array Oper) (m : Nat) (listed : Array Bool) : Prop where
  size : listed.size = ops.size
  closed : ∀ (j : Nat) (o : Oper), ops[j]? = some o → listed.getD j false = true → ∀ x ∈ waits o, listed.getD x false = true

theorem Inv.set {listed : Array Bool} {i : Nat} (h : Inv ops m listed) (hr : rdy ops listed i = true) : Inv ops m (listed.setIfInBounds i true) := by
  obtain ⟨_, oi, hoi, hw⟩ := rdy_spec hr
  refine ⟨by simp [h.size], fun j o ho hj x hx => ?_⟩
  by_cases e : i = j
  · subst e
    have : o = oi := Option.some.inj (ho.symm.trans hoi)
    subst this
    exact getD_set_mono (hw x hx)
  · rw [getD_set_other e] at hj
    exact getD_set_mono (h.closed j o ho hj x hx)

theorem Inv.anc {listed : Array Bool} (h : Inv ops m listed) : ∀ (f j : Nat), (∀ o, ops[j]? = some o → ∀ x ∈ waits o, listed.getD x false = true) → ∀ i ∈ anc ops f j, listed.getD i false = true := by
  intro f
  induction f with
  | zero => intro j _ i hi; simp [Vk.anc] at hi
  | succ f ih =>
    intro j hj i hi
    unfold Vk.anc at hi
    cases ho : ops[j]? with
    | none => rw [ho] at hi; simp at hi
    | some o =>
      rw [ho] at hi
      obtain ⟨x, hx, hi⟩ := List.mem_flatMap.1 hi
      rcases List.mem_cons.1 hi with rfl | hi
      · exact hj o ho i hx
      · exact ih x (fun o' ho' y hy => h.closed x o' ho' (hj o ho x hx) y hy) i hi

/-- Behind the first m operations there is one order alone. -/
theorem tail_order (hok : DrawOk ops m) : ∀ (d j fuel t : Nat) (listed : Array Bool), ops.size - j = d → m ≤ j → j ≤ ops.size → Inv ops m listed → (∀ i, i < j → listed.getD i true = true) →
    (∀ i, j ≤ i → i < ops.size → listed.getD i true = false) → d ≤ fuel → Region.linearise.go .any ops fuel t listed [] = List.range' j d := by
  intro d
  induction d with
  | zero =>
    intro j fuel t listed hd hm hj inv hlo hhi hf
    have hr : Region.ready .any ops listed = [] := by
      rcases List.eq_nil_or_concat (Region.ready .any ops listed) with h | ⟨l, x, h⟩
      · exact h
      · have hx : x ∈ Region.ready .any ops listed := by rw [h]; simp
        obtain ⟨h1, o, ho, _⟩ := rdy_spec (mem_ready_iff.1 hx)
        have hxs := (Array.getElem?_eq_some_iff.1 ho).1
        rw [hlo x (by omega)] at h1; cases h1
    cases fuel with
    | zero => rfl
    | succ fuel => rw [go_step, hr]; rfl
  | succ d ih =>
    intro j fuel t listed hd hm hj inv hlo hhi hf
    cases fuel with
    | zero => omega
    | succ fuel =>
      have hjs : j < ops.size := by omega
      have hrj := ready_first hok inv.size hjs (hhi j (Nat.le_refl _) hjs) hlo
      have hne : Region.ready .any ops listed ≠ [] := fun e => by
        have := mem_ready_iff.2 hrj; rw [e] at this; cases this
      obtain ⟨x, hx, hxm⟩ := pick_some hne t
      have hxr := mem_ready_iff.1 hxm
      have hxj : x = j := by
        obtain ⟨h1, o, ho, hw⟩ := rdy_spec hxr
        have hxs := (Array.getElem?_eq_some_iff.1 ho).1
        rcases Nat.lt_trichotomy x j with h | h | h
        · rw [hlo x h] at h1; cases h1
        · exact h
        · have := inv.anc (ops.size + 1) x (fun o' ho' y hy => by
            have : o' = o := Option.some.inj (ho'.symm.trans ho)
            subst this; exact hw y hy) j (hok.tail x (by omega) hxs j h)
          rw [getD_both (hhi j (Nat.le_refl _) hjs)] at this; cases this
      subst hxj
      rw [go_step, hx]
      simp only [List.range'_succ]
      congr 1
      refine ih (x + 1) fuel _ _ (by omega) (by omega) (by omega) (inv.set hxr) (fun i hi => ?_) (fun i h1 h2 => ?_) (by omega)
      · by_cases e : x = i
        · subst e; simp [inv.size, hjs]
        · exact getD_set_mono (hlo i (by omega))
      · rw [getD_set_other (by omega)]; exact hhi i (by omega) h2

theorem range'_map (j d : Nat) (h : j + d = ops.size) : (List.range' j d).map (fun i => ops[i]?) = (ops.toList.drop j).map some := by
  apply List.ext_getElem?
  intro i
  simp only [List.getElem?_map, List.getElem?_drop]
  by_cases hi : i < d
  · have : j + i < ops.size := by omega
    simp [hi, this]
  · have h1 : (List.range' j d)[i]? = none := List.getElem?_eq_none (by rw [List.length_range']; omega)
    have h2 : ops.toList[j + i]? = none := List.getElem?_eq_none (by rw [Array.length_toList]; omega)
    rw [h1, h2]; rfl

/-- One operation of a schedule. -/
theorem Sp.run {o : Oper} {i : Nat} {is : List Nat} {Φ : Value → World → Prop} (ho : ops[i]? = some o) (h : Sp P ops n ρ o w Φ)
    (hn : ∀ v w', Φ v w' → Run P b cs fin n (.inRegion ops is :: k) (updO o.dst v ρ) ds w') : Run P b cs fin n (.inRegion ops (i :: is) :: k) ρ ds w := by
  unfold Sp at h
  split at h
  · rename_i hg
    obtain ⟨hnd, h⟩ := h
    rcases h with ⟨v, w', hr, hΦ⟩ | ⟨f, args, w', hr, hc⟩ | ⟨w', hr, hΦ⟩
    · refine (hn v w' hΦ).of_step (step_lone_go ?_)
      rw [stepGR_op ho (by rw [wanted_gOk]; exact hg), ← finish_mkA (b := b) (k := k) (n := n) (ρ := ρ) (ds := ds) (is' := is) ho, Oper.semAt_eq _ _ _ hnd, mkA_eval]
      simp [stepG.apply, hr]
    · obtain ⟨e, w'', fr, ⟨v, rfl, hR⟩, hs, _, hl⟩ := hc (b.atR (mkA n ρ ds) (.inRegion ops (i :: is) :: k) :: cs)
      have hent : step P (lone (b.atR (mkA n ρ ds) (.inRegion ops (i :: is) :: k)) cs w) = .next (lone (Frame.enter P f args .normal) (b.atR (mkA n ρ ds) (.inRegion ops (i :: is) :: k) :: cs) w') := by
        refine step_lone_go ?_
        rw [stepGR_op ho (by rw [wanted_gOk]; exact hg), Oper.semAt_eq _ _ _ hnd, mkA_eval]
        simp [stepG.apply, hr, Frame.atR]
      obtain ⟨m, hm, hf⟩ := hn v w'' hR
      refine ⟨m, .head hent (Steps.trans hs (.head (step_leave_returned hl) ?_)), hf⟩
      rw [finish_mkA ho]
      exact hm
    · refine (hn undef w' hΦ).of_step (step_lone_go ?_)
      rw [stepGR_op ho (by rw [wanted_gOk]; exact hg), ← finish_mkA (b := b) (k := k) (n := n) (ρ := ρ) (ds := ds) (is' := is) ho, Oper.semAt_eq _ _ _ hnd, mkA_eval]
      simp [stepG.apply, hr]
  · rename_i hg
    have hs := stepR_op_skip (P := P) (b := b) (a := mkA n ρ ds) (k := k) (cs := cs) (w := w) (ops := ops) (i := i) (rest := is) (by rw [ho]; simpa [wanted_gOk] using hg)
    rw [ho, Option.bind_some, mkA_putO] at hs
    exact (hn _ _ h).of_step hs

theorem any_run' (hok : DrawOk ops m) {K : Env → World → Prop} {A : Nat → Array Bool → Env → World → Prop}
    (hdone : ∀ f listed ρ w, A f listed ρ w → (∀ i, i < m → listed.getD i true = true) → K ρ w)
    (hnext : ∀ f listed ρ w (i : Nat) (o : Oper), A f listed ρ w → i < m → ops[i]? = some o → rdy ops listed i = true → ∃ g, Sp P ops n ρ o w fun v w2 => A g (listed.setIfInBounds i true) (updO o.dst v ρ) w2) (hK : ∀ ρ w, K ρ w → RunL P b cs fin n ops (ops.toList.drop m) k ρ ds w) :
    ∀ (fuel f t : Nat) (listed : Array Bool) (ρ : Env) (w : World), A f listed ρ w → Inv ops m listed → (∀ i, m ≤ i → i < ops.size → listed.getD i true = false) →
      ops.size - fuel ≤ ((List.range m).filter fun i => listed.getD i true).length →
      Run P b cs fin n (.inRegion ops (Region.linearise.go .any ops fuel t listed []) :: k) ρ ds w := by
  intro fuel
  induction fuel with
  | zero =>
    intro f t listed ρ w h inv htail hcount
    have hle : ((List.range m).filter fun i => listed.getD i true).length ≤ m := by
      have := List.length_filter_le (fun i => listed.getD i true) (List.range m); simpa using this
    have hm : m = ops.size := by have := hok.le; omega
    have hall : ∀ i, i < m → listed.getD i true = true := by
      have : (List.range m).filter (fun i => listed.getD i true) = List.range m := List.filter_eq_self.2 (by
        have h1 := List.length_filter_eq_length_iff (l := List.range m) (p := fun i => listed.getD i true)
        exact h1.1 (by rw [List.length_range]; omega))
      intro i hi
      have := List.filter_eq_self.1 this i (List.mem_range.2 hi)
      simpa using this
    have := hK ρ w (hdone _ _ _ _ h hall)
    have hd : ops.toList.drop m = [] := by rw [hm]; simp
    rw [hd] at this
    exact this [] rfl
  | succ fuel ih =>
    intro f t listed ρ w h inv htail hcount
    by_cases hall : ∀ i, i < m → listed.getD i true = true
    · have hlen : ((List.range m).filter fun i => listed.getD i true).length = m := by
        rw [List.filter_eq_self.2 (fun i hi => hall i (List.mem_range.1 hi))]; simp
      rw [tail_order hok (ops.size - m) m (fuel + 1) t listed rfl (Nat.le_refl _) hok.le inv hall htail (by have := hok.le; omega)]
      exact hK ρ w (hdone _ _ _ _ h hall) _ (range'_map m _ (by have := hok.le; omega))
    · have hex : ∃ i, i < m ∧ listed.getD i true = false := by
        apply Classical.byContradiction
        intro hno
        exact hall fun i hi => by
          cases e : listed.getD i true with
          | true => rfl
          | false => exact absurd ⟨i, hi, e⟩ hno
      obtain ⟨j, hjm, hjl, hjb⟩ := exists_first m hex
      have hrj := ready_first hok inv.size (Nat.lt_of_lt_of_le hjm hok.le) hjl hjb
      have hne : Region.ready .any ops listed ≠ [] := fun e => by
        have := mem_ready_iff.2 hrj; rw [e] at this; cases this
      obtain ⟨x, hx, hxm⟩ := pick_some hne t
      have hxr := mem_ready_iff.1 hxm
      obtain ⟨hxl, o, ho, hw⟩ := rdy_spec hxr
      have hxs := (Array.getElem?_eq_some_iff.1 ho).1
      have hxlt : x < m := by
        rcases Nat.lt_or_ge x m with h' | h'
        · exact h'
        · have := inv.anc (ops.size + 1) x (fun o' ho' y hy => by
            have : o' = o := Option.some.inj (ho'.symm.trans ho)
            subst this; exact hw y hy) j (hok.tail x h' hxs j (by omega))
          rw [getD_both hjl] at this; cases this
      rw [go_step, hx]
      obtain ⟨g, hsp⟩ := hnext _ _ _ _ _ _ h hxlt ho hxr
      refine hsp.run ho fun v w' h' => ih g _ _ _ _ h' (inv.set hxr) (fun i h1 h2 => by rw [getD_set_other (by omega)]; exact htail i h1 h2) ?_
      have hgrow : ((List.range m).filter fun i => listed.getD i true).length + 1 ≤ ((List.range m).filter fun i => (listed.setIfInBounds x true).getD i true).length := by
        have key : ∀ l : List Nat, l.Nodup → x ∈ l → (l.filter fun i => listed.getD i true).length + 1 ≤ (l.filter fun i => (listed.setIfInBounds x true).getD i true).length := by
          intro l
          induction l with
          | nil => intro _ h; cases h
          | cons y l ihl =>
            intro hnd hmem
            have hnd' := List.nodup_cons.1 hnd
            by_cases e : x = y
            · subst e
              have hset : (listed.setIfInBounds x true).getD x true = true := by simp [inv.size, hxs]
              rw [List.filter_cons_of_neg (by simp [hxl]), List.filter_cons_of_pos (p := fun i => (listed.setIfInBounds x true).getD i true) hset, List.length_cons]
              refine Nat.succ_le_succ (Nat.le_of_eq ?_)
              congr 1
              apply List.filter_congr
              intro z hz
              rw [getD_set_other (by rintro rfl; exact hnd'.1 hz)]
            · have hmem' : x ∈ l := by rcases List.mem_cons.1 hmem with h | h; exact absurd h e; exact h
              have := ihl hnd'.2 hmem'
              have he : (listed.setIfInBounds x true).getD y true = listed.getD y true := getD_set_other e
              by_cases hy : listed.getD y true = true
              · rw [List.filter_cons_of_pos (by simpa using hy), List.filter_cons_of_pos (by rw [he]; simpa using hy)]
                simp only [List.length_cons]; omega
              · rw [List.filter_cons_of_neg (by simpa using hy), List.filter_cons_of_neg (by rw [he]; simpa using hy)]
                exact this
        exact key _ List.nodup_range (List.mem_range.2 hxlt)
      omega

theorem any_run (hok : DrawOk ops m) {K : Env → World → Prop} (hK : ∀ ρ w, K ρ w → RunL P b cs fin n ops (ops.toList.drop m) k ρ ds w) :
    ∀ (fuel f t : Nat) (listed : Array Bool) (ρ : Env) (w : World), AnyC P n ops m K f listed ρ w → Inv ops m listed → (∀ i, m ≤ i → i < ops.size → listed.getD i true = false) →
      ops.size - fuel ≤ ((List.range m).filter fun i => listed.getD i true).length →
      Run P b cs fin n (.inRegion ops (Region.linearise.go .any ops fuel t listed []) :: k) ρ ds w :=
  any_run' hok (fun _ _ _ _ h hl => h.done hl) (fun _ _ _ _ _ _ h hi ho hr => let ⟨g, hs⟩ := h.next hi ho hr; ⟨g, hs.mono fun _ _ h => h.2⟩) hK

/-- **A region that draws its order**: whatever order the first m operations come in; those behind them come last. -/
theorem r_draw {id : Nat} (m : Nat) (hmo : P.follows .mixedOrders = true) (hok : drawOk ops m = true) {K : Env → World → Prop} (f : Nat)
    (h : AnyC P n ops m K f (Array.replicate ops.size false) ρ w) (hK : ∀ ρ w, K ρ w → RunL P b cs fin n ops (ops.toList.drop m) k ρ ds w) :
    Run P b cs fin n (.code (.region id ops true) :: k) ρ ds w := by
  refine Run.of_step stepR_region_draw ?_
  have hok := drawOk_spec hok
  have := any_run (b := b) (cs := cs) (fin := fin) (k := k) (ds := ds) hok hK ops.size f (w.tape w.drawn (.order b.fn id)) (Array.replicate ops.size false) ρ { w with drawn := w.drawn + 1 } (h.le (Le.drew w))
    ⟨by simp, fun j o ho hj => by
      have : j < ops.size := (Array.getElem?_eq_some_iff.1 ho).1
      simp [this] at hj⟩ (fun i _ hi => by simp [hi]) (by omega)
  simp only [Region.schedule, hmo, Bool.true_or, if_true, Region.linearise]
  exact this

/-! ### all of the first m are rigid: one walk of the text's order -/

def RW (P : Program) (ops : Array Oper) (n : Nat) (w : World) (K : Env → Prop) : List Oper → Env → Prop
  | [], ρ => K ρ
  | o :: rest, ρ => ∃ v, Rigid P ops n ρ o w v ∧ RW P ops n w K rest (updO o.dst v ρ)

theorem anyC_of_RW {K : Env → World → Prop} (hok : DrawOk ops m) : ∀ (l : List Oper) (i : Nat) (listed : Array Bool) (ρ : Env), i + l.length = m → (∀ j, l[j]? = if i + j < m then ops[i + j]? else none) →
    listed.size = ops.size → (∀ j, j < i → listed.getD j true = true) → (∀ j, i ≤ j → j < ops.size → listed.getD j true = false) → RW P ops n w (fun ρ => ∀ w', Le w w' → K ρ w') l ρ →
    AnyC P n ops m K l.length listed ρ w := by
  intro l
  induction l with
  | nil =>
    intro i listed ρ hi hl hs hlo hhi h w1 h1
    simp at hi
    subst hi
    exact ⟨fun _ => h w1 h1, fun j hj => by
      cases e : rdy ops listed j with
      | false => rfl
      | true => have := (rdy_spec e).1; rw [hlo j hj] at this; cases this⟩
  | cons o l ih =>
    intro i listed ρ hi hl hs hlo hhi h
    simp only [List.length_cons] at hi
    obtain ⟨v, hrig, h⟩ := h
    have him : i < m := by omega
    have his : i < ops.size := Nat.lt_of_lt_of_le him hok.le
    have ho : ops[i]? = some o := by
      have := hl 0; simpa [him] using this.symm
    have hr : rdy ops listed i = true := ready_first hok hs his (hhi i (Nat.le_refl _) his) hlo
    refine AnyC.first hok ho him l.length listed ρ w hr hrig (ih (i + 1) _ _ (by omega) (fun j => ?_) (by simp [hs]) (fun j hj => ?_) (fun j h1 h2 => ?_) h)
    · have := hl (j + 1)
      simpa [Nat.add_assoc, Nat.add_comm 1 j] using this
    · by_cases e : i = j
      · subst e; simp [hs, his]
      · exact getD_set_mono (hlo j (by omega))
    · rw [getD_set_other (by omega)]; exact hhi j (by omega) h2

/-- **A region that draws its order, whose first m operations yield the same in every order.** -/
theorem r_drawR {id : Nat} (m : Nat) (hmo : P.follows .mixedOrders = true) (hok : drawOk ops m = true)
    (h : RW P ops n w (fun ρ => ∀ w', Le w w' → RunL P b cs fin n ops (ops.toList.drop m) k ρ ds w') (ops.toList.take m) ρ) :
    Run P b cs fin n (.code (.region id ops true) :: k) ρ ds w := by
  have hok' := drawOk_spec hok
  have hle := hok'.le
  refine r_draw m hmo hok (K := fun ρ w => RunL P b cs fin n ops (ops.toList.drop m) k ρ ds w) (ops.toList.take m).length ?_ (fun _ _ h => h)
  refine anyC_of_RW hok' (ops.toList.take m) 0 _ ρ (by simp; omega) (fun j => ?_) (by simp) (fun j hj => by omega) (fun j _ hj => by simp [hj]) h
  simp [List.getElem?_take]

variable {o : Oper} {rest : List Oper} {K : Env → Prop} {d : Nat} {op : Op} {ty : TypeId} {pos : String} {af : Array Edge} {g : Option (Nat × Bool)} {v : Value}

theorem w_nil (h : K ρ) : RW P ops n w K [] ρ := h
/-- An operation's value, the same in every later world. -/
theorem w_x (hg : gOk ops n ρ g = true) (hx : ∀ w1, Le w w1 → X P (ev n ρ) op ty w1 v w1) (h : RW P ops n w K rest (upd ρ d v)) : RW P ops n w K (⟨some d, op, ty, pos, af, g⟩ :: rest) ρ := by
  refine ⟨v, fun w1 h1 => ?_, h⟩
  unfold Sp
  rw [if_pos hg]
  exact ⟨(hx w1 h1).1, .inl ⟨v, w1, (hx w1 h1).2 .., rfl, Le.refl _⟩⟩
theorem w_pass (hg : gOk ops n ρ o.guard = false) (h : RW P ops n w K rest (updO o.dst undef ρ)) : RW P ops n w K (o :: rest) ρ := by
  refine ⟨undef, fun w1 h1 => ?_, h⟩
  unfold Sp
  rw [if_neg (by simp [hg])]
  exact ⟨rfl, Le.refl _⟩
/-- A call whose result is the same in every later world. -/
theorem w_call (hg : gOk ops n ρ o.guard = true) (hnd : ∀ c, o.op ≠ .defer c) {f : FuncId} {args : Array Value} (hr : ∀ w, (execOp (ev n ρ) o).run P w = .ok (.enter f args) w)
    (hc : ∀ w1, Le w w1 → Cl P f args w1 fun u w2 => u = v ∧ Le w1 w2) (h : RW P ops n w K rest (updO o.dst v ρ)) : RW P ops n w K (o :: rest) ρ := by
  refine ⟨v, fun w1 h1 => ?_, h⟩
  unfold Sp
  rw [if_pos hg]
  exact ⟨hnd, .inr (.inl ⟨f, args, w1, hr w1, hc w1 h1⟩)⟩
/-- The guard's slot is decided. -/
theorem w_split {l : List Oper} {d : Nat} {t : Bool} (hd : ρ d = .bool t) (ht : t = true → RW P ops n w K l (upd ρ d (.bool true))) (hf : t = false → RW P ops n w K l (upd ρ d (.bool false))) : RW P ops n w K l ρ := by
  cases t
  · have := hf rfl; rwa [upd_self hd] at this
  · have := ht rfl; rwa [upd_self hd] at this
theorem w_splitd {l : List Oper} {d : Nat} {p : Prop} [Decidable p] (hd : ρ d = .bool (decide p)) (ht : p → RW P ops n w K l (upd ρ d (.bool true))) (hf : ¬ p → RW P ops n w K l (upd ρ d (.bool false))) : RW P ops n w K l ρ :=
  w_split hd (fun h => ht (of_decide_eq_true h)) (fun h => hf (of_decide_eq_false h))

end
end Go.Vk
