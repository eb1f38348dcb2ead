/- The proof engine, part 15: regions that draw their order, in which operations change memory. Generic over the program. -/
import Derived.Test.YtddapgjjndbejaaVkNest
namespace Go.Vk
open Go

section
variable {P : Program} {b : Frame} {cs : List Frame} {fin : Machine → Prop} {n : Nat} {k : List Item} {ρ : Env} {ds : List Deferred} {w w' : World} {ops : Array Oper} {m : Nat} {G : World → World → Prop}

/-- Whatever order is picked from here on; each step goes by G. -/
def AnyE (P : Program) (n : Nat) (ops : Array Oper) (m : Nat) (G : World → World → Prop) (K : Env → World → Prop) : Nat → Array Bool → Env → World → Prop
  | 0, listed, ρ, w => ((∀ i, i < m → listed.getD i true = true) → K ρ w) ∧ ∀ (i : Nat), i < m → rdy ops listed i = false
  | f + 1, listed, ρ, w => ((∀ i, i < m → listed.getD i true = true) → K ρ w) ∧ ∀ (i : Nat) (o : Oper), i < m → ops[i]? = some o → rdy ops listed i = true →
      Sp P ops n ρ o w fun v w2 => G w w2 ∧ AnyE P n ops m G K f (listed.setIfInBounds i true) (updO o.dst v ρ) w2

/-- It yields v and leaves the world as it is, whatever has come by G. -/
def Exact (P : Program) (ops : Array Oper) (n : Nat) (G : World → World → Prop) (ρ : Env) (o : Oper) (w : World) (v : Value) : Prop := ∀ w1, G w w1 → Sp P ops n ρ o w1 fun u w2 => u = v ∧ w2 = w1

theorem AnyE.first {K : Env → World → Prop} {i : Nat} {oi : Oper} {v : Value} (hr0 : ∀ w, G w w) (htr : ∀ {u v w}, G u v → G v w → G u w) (hok : DrawOk ops m) (hi : ops[i]? = some oi) (him : i < m) :
    ∀ (f : Nat) (listed : Array Bool) (ρ : Env) (w : World), rdy ops listed i = true → Exact P ops n G ρ oi w v →
      AnyE P n ops m G K f (listed.setIfInBounds i true) (updO oi.dst v ρ) w → AnyE P n ops m G K (f + 1) listed ρ w := by
  intro f
  induction f with
  | zero =>
    intro listed ρ w hr hy H
    refine ⟨fun hl => ?_, fun j oj hjm hj hrj => ?_⟩
    · have := (rdy_spec hr).1; rw [hl i him] at this; cases this
    · by_cases e : j = i
      · subst e
        have : oj = oi := Option.some.inj (hj.symm.trans hi)
        subst this
        exact (hy w (hr0 w)).mono fun u w2 ⟨hu, h2⟩ => by subst hu; subst h2; exact ⟨hr0 _, H⟩
      · have := H.2 j hjm
        rw [rdy_other e hrj] at this
        cases this
  | succ f ih =>
    intro listed ρ w hr hy H
    refine ⟨fun hl => ?_, fun j oj hjm hj hrj => ?_⟩
    · have := (rdy_spec hr).1; rw [hl i him] at this; cases this
    · by_cases e : j = i
      · subst e
        have : oj = oi := Option.some.inj (hj.symm.trans hi)
        subst this
        exact (hy w (hr0 w)).mono fun u w2 ⟨hu, h2⟩ => by subst hu; subst h2; exact ⟨hr0 _, H⟩
      · have h2 := H.2 j oj hjm hj (rdy_other e hrj)
        have hap : apartB ops oi oj = true := by
          rcases hok.apart i j oi oj him hjm (Ne.symm e) hi hj with h | h | h
          · obtain ⟨_, o', ho', hw'⟩ := rdy_spec hrj
            have : o' = oj := Option.some.inj (ho'.symm.trans hj)
            subst this
            have := hw' i h
            rw [getD_both (rdy_spec hr).1] at this; cases this
          · obtain ⟨_, o', ho', hw'⟩ := rdy_spec hr
            have : o' = oi := Option.some.inj (ho'.symm.trans hi)
            subst this
            have := hw' j h
            rw [getD_both (rdy_spec hrj).1] at this; cases this
          · exact h
        obtain ⟨a1, a2, a3⟩ := apartB_spec hap
        rw [Sp.congr (not_sel (hok.sel j oj hj)) a1] at h2
        refine h2.mono fun u w2 ⟨h3, h4⟩ => ⟨h3, ?_⟩
        refine ih (listed.setIfInBounds j true) (updO oj.dst u ρ) w2 (rdy_other (Ne.symm e) hr) (fun w3 h5 => ?_) ?_
        · rw [Sp.congr (not_sel (hok.sel i oi hi)) a3]
          exact hy w3 (htr h3 h5)
        · rw [Array.setIfInBounds_comm _ _ e, ← updO_comm ρ v u a2]
          exact h4

/-- The state in the midst of a region: which operations have come. -/
def RE (P : Program) (b : Frame) (cs : List Frame) (fin : Machine → Prop) (n : Nat) (ops : Array Oper) (m : Nat) (G : World → World → Prop) (k : List Item) (ds : List Deferred) (listed : Array Bool) (ρ : Env) (w : World) : Prop :=
  ∃ f, AnyE P n ops m G (fun ρ w => RunL P b cs fin n ops (ops.toList.drop m) k ρ ds w) f listed ρ w

/-- **A region that draws its order, and changes memory.** The blocks of Y may be changed on the way. -/
theorem r_drawE {id : Nat} (m : Nat) (Y : Nat → Prop) (hmo : P.follows .mixedOrders = true) (hok : drawOk ops m = true)
    (h : ∀ w1, Le w w1 → RE P b cs fin n ops m (Keep Y) k ds (Array.replicate ops.size false) ρ w1) :
    Run P b cs fin n (.code (.region id ops true) :: k) ρ ds w := by
  refine Run.of_step stepR_region_draw ?_
  have hok := drawOk_spec hok
  obtain ⟨f, hf⟩ := h { w with drawn := w.drawn + 1 } (Le.drew w)
  have := any_run' (P := P) (n := n) (b := b) (cs := cs) (fin := fin) (k := k) (ds := ds) hok (A := AnyE P n ops m (Keep Y) fun ρ w => RunL P b cs fin n ops (ops.toList.drop m) k ρ ds w)
    (fun f listed ρ w h hl => by cases f with
      | zero => exact h.1 hl
      | succ f => exact h.1 hl)
    (fun f listed ρ w i o h hi ho hr => by cases f with
      | zero => have := h.2 i hi; rw [hr] at this; cases this
      | succ f => exact ⟨f, (h.2 i o hi ho hr).mono fun _ _ h => h.2⟩)
    (fun _ _ h => h) ops.size f (w.tape w.drawn (.order b.fn id)) (Array.replicate ops.size false) ρ { w with drawn := w.drawn + 1 } hf
    ⟨by simp, fun j o ho hj => by
      have : j < ops.size := (Array.getElem?_eq_some_iff.1 ho).1
      simp [this] at hj⟩ (fun i _ hi => by simp [hi]) (by omega)
  simp only [Region.schedule, hmo, Bool.true_or, if_true, Region.linearise]
  exact this

variable {Y : Nat → Prop} {listed listed' : Array Bool}

/-- A quiet operation, of those that are ready, is taken first. -/
theorem e_exact {v : Value} (i : Nat) (o : Oper) (hok : drawOk ops m = true) (ho : ops[i]? = some o) (him : Nat.blt i m = true) (hr : rdy ops listed i = true) (hl : listed.setIfInBounds i true = listed')
    (hx : Exact P ops n (Keep Y) ρ o w v) (h : RE P b cs fin n ops m (Keep Y) k ds listed' (updO o.dst v ρ) w) : RE P b cs fin n ops m (Keep Y) k ds listed ρ w := by
  subst hl
  obtain ⟨f, hf⟩ := h
  exact ⟨f + 1, AnyE.first (fun w => Keep.refl Y w) (fun h h' => h.trans h') (drawOk_spec hok) ho (by simpa using him) f listed ρ w hr hx hf⟩

/-- All have come. -/
theorem e_done (hr : ((List.range m).all fun i => !rdy ops listed i) = true) (h : RunL P b cs fin n ops (ops.toList.drop m) k ρ ds w) : RE P b cs fin n ops m G k ds listed ρ w := by
  refine ⟨0, fun _ => h, fun i hi => ?_⟩
  have := List.all_eq_true.1 hr i (List.mem_range.2 hi)
  simpa using this

theorem filter_lt {α : Type} {p q : α → Bool} {x : α} : ∀ {l : List α}, x ∈ l → (∀ y, q y = true → p y = true) → p x = true → q x = false → (l.filter q).length + 1 ≤ (l.filter p).length := by
  intro l
  induction l with
  | nil => intro h; cases h
  | cons y l ih =>
    intro hx hpq hp hq
    have hle : (l.filter q).length ≤ (l.filter p).length := by
      clear ih hx
      induction l with
      | nil => simp
      | cons z l ih =>
        by_cases hz : q z = true
        · simp [hz, hpq z hz, ih]
        · by_cases hz' : p z = true
          · simp [hz, hz']; omega
          · simp [hz, hz', ih]
    by_cases e : x = y
    · subst e; simp [hp, hq]; exact hle
    · have hx' : x ∈ l := by rcases List.mem_cons.1 hx with h | h; exact absurd h e; exact h
      have := ih hx' hpq hp hq
      by_cases hz : q y = true
      · simp [hz, hpq y hz]; exact this
      · by_cases hz' : p y = true
        · simp [hz, hz']; omega
        · simp [hz, hz']; exact this

/-- How many are still to come. -/
def left (m : Nat) (listed : Array Bool) : Nat := ((List.range m).filter fun i => !listed.getD i true).length
theorem left_le (m : Nat) (listed : Array Bool) : left m listed ≤ m := by
  have := List.length_filter_le (fun i => !listed.getD i true) (List.range m); simpa [left] using this
theorem left_set {x : Nat} (hx : x < m) (hl : listed.getD x true = false) : left m (listed.setIfInBounds x true) + 1 ≤ left m listed := by
  refine filter_lt (x := x) (List.mem_range.2 hx) (fun y hy => ?_) (by simp [hl]) ?_
  · simp only [Bool.not_eq_true'] at hy ⊢
    cases h : listed.getD y true with
    | false => rfl
    | true => rw [getD_set_mono h] at hy; cases hy
  · have : x < listed.size := by
      rcases Nat.lt_or_ge x listed.size with h | h
      · exact h
      · simp [h] at hl
    simp [this]

theorem AnyE.trunc {K : Env → World → Prop} : ∀ (f F : Nat) (listed : Array Bool) (ρ : Env) (w : World), left m listed ≤ f → AnyE P n ops m G K F listed ρ w → AnyE P n ops m G K f listed ρ w := by
  intro f
  induction f with
  | zero =>
    intro F listed ρ w hl h
    refine ⟨?_, fun i hi => ?_⟩
    · cases F with
      | zero => exact h.1
      | succ F => exact h.1
    · cases hr : rdy ops listed i with
      | false => rfl
      | true =>
        have := left_set hi (rdy_spec hr).1
        omega
  | succ f ih =>
    intro F listed ρ w hl h
    refine ⟨?_, fun i o hi ho hr => ?_⟩
    · cases F with
      | zero => exact h.1
      | succ F => exact h.1
    · cases F with
      | zero => have := h.2 i hi; rw [hr] at this; cases this
      | succ F =>
        have hls := left_set hi (rdy_spec hr).1
        exact (h.2 i o hi ho hr).mono fun v w2 ⟨h1, h2⟩ => ⟨h1, ih F _ _ _ (by omega) h2⟩

def Each (Q : Nat → Prop) : List Nat → Prop
  | [] => True
  | i :: l => Q i ∧ Each Q l
theorem Each.mem {Q : Nat → Prop} : ∀ {l : List Nat} {i : Nat}, Each Q l → i ∈ l → Q i := by
  intro l
  induction l with
  | nil => intro i _ h; cases h
  | cons j l ih =>
    intro i h hi
    rcases List.mem_cons.1 hi with rfl | hi
    · exact h.1
    · exact ih h.2 hi

/-- What it takes that operation i comes next. -/
def Nx (P : Program) (b : Frame) (cs : List Frame) (fin : Machine → Prop) (n : Nat) (ops : Array Oper) (m : Nat) (Y : Nat → Prop) (k : List Item) (ds : List Deferred) (listed : Array Bool) (ρ : Env) (w : World) (i : Nat) : Prop :=
  ∃ o listed', ops[i]? = some o ∧ listed.setIfInBounds i true = listed' ∧ Sp P ops n ρ o w fun v w2 => Keep Y w w2 ∧ RE P b cs fin n ops m (Keep Y) k ds listed' (updO o.dst v ρ) w2

/-- Those that may come next. -/
theorem e_next (is : List Nat) (hl : ((List.range m).all fun i => listed.getD i true) = false) (hr : ((List.range m).all fun j => is.contains j || !rdy ops listed j) = true)
    (h : Each (Nx P b cs fin n ops m Y k ds listed ρ w) is) : RE P b cs fin n ops m (Keep Y) k ds listed ρ w := by
  refine ⟨m + 1, fun hall => ?_, fun i o hi ho hri => ?_⟩
  · rw [List.all_eq_true.2 fun i hi => hall i (List.mem_range.1 hi)] at hl; cases hl
  · have h1 := List.all_eq_true.1 hr i (List.mem_range.2 hi)
    rw [hri] at h1
    obtain ⟨o', listed', ho', hl', hs⟩ := h.mem (i := i) (by simpa using h1)
    have : o' = o := Option.some.inj (ho'.symm.trans ho)
    subst this
    subst hl'
    exact hs.mono fun v w2 ⟨h1, f, hf⟩ => ⟨h1, hf.trunc _ _ _ _ _ (left_le _ _)⟩
end

section
variable {P : Program} {n : Nat} {all : Array Oper} {ρ : Env} {w w' : World} {d : Nat} {op : Op} {ty : TypeId} {pos : String} {af : Array Edge} {g : Option (Nat × Bool)} {v : Value} {Y : Nat → Prop} {o : Oper} {Φ : Value → World → Prop}

/-- A quiet operation. -/
theorem ex_x (hg : gOk all n ρ g = true) (hx : ∀ w1, Keep Y w w1 → X P (ev n ρ) op ty w1 v w1) : Exact P all n (Keep Y) ρ ⟨some d, op, ty, pos, af, g⟩ w v := by
  intro w1 h1
  unfold Sp
  rw [if_pos hg]
  exact ⟨(hx w1 h1).1, .inl ⟨v, w1, (hx w1 h1).2 .., rfl, rfl⟩⟩
theorem ex_pass (hg : gOk all n ρ o.guard = false) : Exact P all n (Keep Y) ρ o w undef := by
  intro w1 h1
  unfold Sp
  rw [if_neg (by simp [hg])]
  exact ⟨rfl, rfl⟩
/-- An operation that yields a value and changes the world. -/
theorem s_x {d' : Option Nat} (hg : gOk all n ρ g = true) (hx : X P (ev n ρ) op ty w v w') (h : Φ v w') : Sp P all n ρ ⟨d', op, ty, pos, af, g⟩ w Φ := by
  unfold Sp
  rw [if_pos hg]
  exact ⟨hx.1, .inl ⟨v, w', hx.2 .., h⟩⟩
theorem s_pass (hg : gOk all n ρ o.guard = false) (h : Φ undef w) : Sp P all n ρ o w Φ := by
  unfold Sp
  rw [if_neg (by simp [hg])]
  exact h
/-- A call. -/
theorem s_call (hg : gOk all n ρ o.guard = true) (hnd : ∀ c, o.op ≠ .defer c) {f : FuncId} {args : Array Value} (hr : (execOp (ev n ρ) o).run P w = .ok (.enter f args) w) (hc : Cl P f args w Φ) : Sp P all n ρ o w Φ := by
  unfold Sp
  rw [if_pos hg]
  exact ⟨hnd, .inr (.inl ⟨f, args, w, hr, hc⟩)⟩
end

section
variable {P : Program} {n : Nat} {all : Array Oper} {ρ : Env} {w w' : World} {d : Nat} {ty : TypeId} {pos : String} {af : Array Edge} {g : Option (Nat × Bool)} {v : Value} {T : TypeId} {x y : Operand} {Φ : Value → World → Prop}
  {X : Nat → Prop} {w0 : World} {L : List Rsc} {α : Type} {E : Elt α}
theorem s_buildSlice (E : Elt α) {len : Nat} {parts : List (Nat × Operand)} (as : List α) {z : Value} (S : Own X w0 w L) (hg : gOk all n ρ g = true) (hu : ∀ w, (underlying T).run P w = .ok (.slice E.T) w)
    (hs : ∀ w, (sizeOf E.T).run P w = .ok E.sz w) (hz : ∀ w, (zeroValue E.T).run P w = .ok z w) (hl : as.length = len) (hp : PartsOk (ev n ρ) E 0 parts as) (hsm : len * E.sz ≤ 16777216)
    (h : ∀ v w', Own X w0 w' (L ++ [vec E v as]) → Le w w' → Φ v w') :
    Sp P all n ρ ⟨some d, .buildSlice T len parts.toArray, ty, pos, af, g⟩ w Φ := by
  have hpos := E.pos
  have hlen : len ≤ maxLen := by
    have : len ≤ len * E.sz := Nat.le_mul_of_pos_right _ hpos
    simp only [maxLen]; omega
  subst hl
  refine s_x hg (v := .slice (some ⟨w.heap.size, 0, none⟩) as.length as.length) (w' := w.alloc (.cells (as.flatMap E.enc).toArray E.T (0, 0))) ⟨nofun, fun _ _ _ _ => ?_⟩
    (h _ _ (S.add (Le.alloc_cells _ _ _) (vec_new (Nat.le_refl _) hlen (flatMap_enc_length E as) (by rw [List.take_of_length_le]; rw [flatMap_enc_length]; exact Nat.le_refl _))) (Le.alloc_cells _ _ _))
  simp only [execOp, Instr.buildSlice, Sem.run_bind, hu, hs, Result.andThen_ok]
  rw [if_neg (by simpa using hsm)]
  have hfill : ∀ zz : Array Value, Instr.fill (fun i => some (i * E.sz, E.sz)) ((Array.range (as.length * E.sz)).map (zz[· % zz.size]!)) (parts.map fun p => (p.1, ev n ρ p.2)) = some (as.flatMap E.enc).toArray := by
    intro zz
    have := fill_parts (E := E) (ev := ev n ρ) parts as 0 [] ((Array.range (as.length * E.sz)).map (zz[· % zz.size]!)).toList hp (by simp) (by simp)
    simpa only [List.nil_append, Array.toArray_toList] using this
  simp only [List.map_toArray]
  by_cases h0 : as.length * E.sz = 0
  · rw [if_pos h0]
    simp only [Sem.run_bind, Sem.run_pure, Result.andThen_ok, hfill]
    rfl
  · rw [if_neg h0]
    simp only [Sem.run_bind, hz, Sem.run_pure, Result.andThen_ok, hfill]
    rfl

theorem s_make (E : Elt α) (a0 : α) {len cap : Nat} {ti : TypeInfo} {z : Value} (S : Own X w0 w L) (hg : gOk all n ρ g = true) (hu : ∀ w, (underlying T).run P w = .ok (.slice E.T) w)
    (hs : ∀ w, (sizeOf E.T).run P w = .ok E.sz w) (hti : ∀ w, (typeInfo E.T).run P w = .ok ti w) (hz : ∀ w, (zeroValue E.T).run P w = .ok z w) (hzc : z.cells = E.zero.toArray) (h0 : E.enc a0 = E.zero)
    (hx : ev n ρ x = .int .i64 len) (hy : ev n ρ y = .int .i64 cap) (hlc : len ≤ cap) (hm : cap ≤ maxLen) (hb : cap * ti.bytes ≤ 140737488355328)
    (h : ∀ v w', (∃ b, v = .slice (some ⟨b, 0, none⟩) len cap) → Own X w0 w' (L ++ [vec E v (List.replicate len a0)]) → Le w w' → Φ v w') :
    Sp P all n ρ ⟨some d, .makeSlice T x y, ty, pos, af, g⟩ w Φ := by
  have hpos := E.pos
  have hm' : cap ≤ 9223372036854775807 := by simp only [maxLen] at hm; omega
  have hvn := vec_new (w := w) (E := E) (c := (List.replicate cap E.zero).flatten) (l := List.replicate len a0) (cap := cap) (by simpa using hlc) hm (by simp [E.zlen]) (by
    rw [List.length_replicate, flatMap_replicate, h0]
    obtain ⟨e, rfl⟩ : ∃ e, cap = len + e := ⟨cap - len, by omega⟩
    rw [← List.replicate_append_replicate, List.flatten_append, List.take_append_of_le_length (by simp [E.zlen]), List.take_of_length_le (by simp [E.zlen])])
  rw [List.length_replicate] at hvn
  refine s_x hg (v := .slice (some ⟨w.heap.size, 0, none⟩) len cap) (w' := w.alloc (.cells (List.replicate cap E.zero).flatten.toArray E.T (0, 0))) ⟨nofun, fun _ _ _ _ => ?_⟩
    (h _ _ ⟨_, rfl⟩ (S.add (Le.alloc_cells _ _ _) hvn) (Le.alloc_cells _ _ _))
  have hw1 : IntKind.i64.wrap (len : Int) = len := IntWalk.i64_in _ (by omega)
  have hw2 : IntKind.i64.wrap (cap : Int) = cap := IntWalk.i64_in _ (by omega)
  have eb : ∀ m : Nat, (ti.bytes : Int) * (m : Int) = ((m * ti.bytes : Nat) : Int) := fun m => by rw [Int.natCast_mul, Int.mul_comm]
  have hlen : len * ti.bytes ≤ 140737488355328 := Nat.le_trans (Nat.mul_le_mul_right _ hlc) hb
  have hroom : ∀ w, (askRoom (cap * ti.bytes)).run P w = .ok () w := by
    intro w
    unfold askRoom roomBytes
    rw [if_neg (by omega)]
    rfl
  have hcells : ∀ zz : Array Value, (cap * E.sz = 0 ∨ zz = E.zero.toArray) → (Array.range (cap * E.sz)).map (fun i => zz[i % zz.size]!) = (List.replicate cap E.zero).flatten.toArray := by
    intro zz hz0
    by_cases hc : cap * E.sz = 0
    · have : cap = 0 := by
        rcases Nat.mul_eq_zero.1 hc with h | h
        · exact h
        · omega
      subst this
      simp
    · have hzz := hz0.resolve_left hc
      have := range_zero E.zero cap
      rw [← this, E.zlen, hzz]
      apply Array.ext'
      simp [E.zlen]
  have htl : ∀ m : Nat, m * ti.bytes ≤ 140737488355328 → (decide ((m : Int) < 0) || decide ((ti.bytes : Int) * (m : Int) > 2 ^ 48)) = false := by
    intro m hm
    rw [eb]
    have h1 : ¬ ((m : Int) < 0) := by omega
    have h2 : ¬ (((m * ti.bytes : Nat) : Int) > 2 ^ 48) := by
      rw [show (2 : Int) ^ 48 = 281474976710656 from rfl]; omega
    simp only [h1, h2, decide_false, Bool.or_false]
  simp only [execOp, Instr.makeSlice, Sem.run_bind, hu, Result.andThen_ok, hx, hy, asInt, asIntOf, Sem.run_pure, hti, hw1, hw2, htl cap hb, htl len hlen]
  have h3 : ¬ ((len : Int) < 0) := by omega
  have h4 : ¬ ((len : Int) > (cap : Int)) := by omega
  simp only [h3, h4, decide_false, Bool.or_false, Bool.false_eq_true, if_false, Int.toNat_natCast]
  by_cases h0 : cap * E.sz = 0
  · simp only [Sem.run_bind, hroom, Result.andThen_ok, hs]
    rw [if_pos h0]
    simp only [Sem.run_bind, Sem.run_pure, Result.andThen_ok, hcells _ (.inl h0)]
    rfl
  · simp only [Sem.run_bind, hroom, Result.andThen_ok, hs]
    rw [if_neg h0]
    simp only [Sem.run_bind, hz, hzc, Sem.run_pure, Result.andThen_ok, hcells _ (.inr rfl)]
    rfl


theorem s_append (E : Elt α) {i : TypeInfo} {z : Value} {xv : Value} {l xs : List α} (S : Own X w0 w L) (j : Nat) (hj : L[j]? = some (vec E v l)) (hg : gOk all n ρ g = true) (hx : ev n ρ x = v) (hy : ev n ρ y = xv) (hr : Rd E w xv xs)
    (ht : P.underlying T = some (.slice E.T)) (hi : P.info? E.T = some i) (hz : i.zero = some z) (hsz : i.size = E.sz) (hzc : z.cells.size = E.sz)
    (h63 : l.length + xs.length ≤ maxLen) (h47 : (l.length + xs.length) * i.bytes ≤ 140737488355328)
    (h : ∀ v' w', Own X w0 w' (L.set j (vec E v' (l ++ xs))) → Keep (vec E v l).fp w w' → (l ++ xs ≠ [] → ∃ b cap, v' = .slice (some ⟨b, 0, none⟩) (l.length + xs.length) cap) → Φ v' w') :
    Sp P all n ρ ⟨some d, .call ⟨.builtin .append, #[x, y], #[T, T]⟩, ty, pos, af, g⟩ w Φ := by
  obtain ⟨v', w', hrun, h1, h2, h3⟩ := run_append_vec (P := P) (ty := ty) S j hj hr ht hi hz hsz hzc h63 h47
  refine s_x hg ⟨nofun, fun _ _ _ _ => ?_⟩ (h v' w' h1 h2 h3)
  simp only [execOp, resolve, Sem.run_bind, Sem.run_pure, Result.andThen_ok, invoke, builtin, List.map_toArray, List.map_cons, List.map_nil, hx, hy, hrun]

theorem s_box {X : Nat → Prop} {w0 : World} {L : List Rsc} {c : List Value} (S : Own X w0 w L) (hg : gOk all n ρ g = true) (hx : (ev n ρ x).cells = c.toArray)
    (h : ∀ b' w', Own X w0 w' (L ++ [blk b' c T]) → Le w w' → Φ (.pointer (some ⟨b', 0, none⟩)) w') :
    Sp P all n ρ ⟨some d, .box T x, ty, pos, af, g⟩ w Φ := by
  refine s_x hg (v := .pointer (some ⟨w.heap.size, 0, none⟩)) (w' := w.alloc (.cells c.toArray T (0, 0))) ⟨nofun, fun _ _ _ _ => ?_⟩ (h _ _ (S.alloc c T) (Le.alloc_cells _ _ _))
  simp only [execOp, Instr.box, Sem.run_bind, run_newVar, Result.andThen_ok, Sem.run_pure, hx]

theorem s_alloc {X : Nat → Prop} {w0 : World} {L : List Rsc} {c : List Value} {z : Value} (S : Own X w0 w L) (hg : gOk all n ρ g = true) (hz : ∀ w, (zeroValue T).run P w = .ok z w) (hx : z.cells = c.toArray)
    (h : ∀ b' w', Own X w0 w' (L ++ [blk b' c T]) → Le w w' → Φ (.pointer (some ⟨b', 0, none⟩)) w') :
    Sp P all n ρ ⟨some d, .alloc T, ty, pos, af, g⟩ w Φ := by
  refine s_x hg (v := .pointer (some ⟨w.heap.size, 0, none⟩)) (w' := w.alloc (.cells c.toArray T (0, 0))) ⟨nofun, fun _ _ _ _ => ?_⟩ (h _ _ (S.alloc c T) (Le.alloc_cells _ _ _))
  simp only [execOp, Instr.alloc, Sem.run_bind, hz, run_newVar, Result.andThen_ok, Sem.run_pure, hx]

theorem s_callf {all : Array Oper} {d' : Option Nat} {F : Operand} {as : List Operand} {ts : Array TypeId} {f : FuncId} (first cap vals : List Value)
    (hg : gOk all n ρ g = true) (hF : ev n ρ F = .func (.func f) first.toArray cap.toArray) (he : ∀ args w, (callFunc f args).run P w = .ok (.enter f args) w) (ha : first ++ as.map (ev n ρ) ++ cap = vals)
    (hc : Cl P f vals.toArray w Φ) : Sp P all n ρ ⟨d', .call ⟨.value F, as.toArray, ts⟩, ty, pos, af, g⟩ w Φ := by
  subst ha
  refine s_call hg nofun ?_ hc
  exact run_call hF he rfl
end

section
variable {P : Program} {b : Frame} {cs : List Frame} {fin : Machine → Prop} {n : Nat} {k : List Item} {ρ : Env} {ds : List Deferred} {w w' : World} {ops : Array Oper} {m : Nat} {Y : Nat → Prop} {listed : Array Bool}
theorem e_split {d : Nat} {t : Bool} (hd : ρ d = .bool t) (ht : t = true → RE P b cs fin n ops m (Keep Y) k ds listed (upd ρ d (.bool true)) w) (hf : t = false → RE P b cs fin n ops m (Keep Y) k ds listed (upd ρ d (.bool false)) w) :
    RE P b cs fin n ops m (Keep Y) k ds listed ρ w := by
  cases t
  · have := hf rfl; rwa [upd_self hd] at this
  · have := ht rfl; rwa [upd_self hd] at this
theorem e_splitd {d : Nat} {p : Prop} [Decidable p] (hd : ρ d = .bool (decide p)) (ht : p → RE P b cs fin n ops m (Keep Y) k ds listed (upd ρ d (.bool true)) w) (hf : ¬ p → RE P b cs fin n ops m (Keep Y) k ds listed (upd ρ d (.bool false)) w) :
    RE P b cs fin n ops m (Keep Y) k ds listed ρ w := e_split hd (fun h => ht (of_decide_eq_true h)) (fun h => hf (of_decide_eq_false h))
/-- Behind these operations, in whatever order they came, only the named slots are known. -/
theorem e_cut {G : Type} (slots : G → List (Nat × Value)) (I : G → World → Prop)
    (hK : ∀ g ρ w, I g w → RunL P b cs fin n ops (ops.toList.drop m) k (upds ρ (slots g)) ds w)
    (h : (∀ g ρ w, Agree ρ (slots g) → I g w → RunL P b cs fin n ops (ops.toList.drop m) k ρ ds w) → RE P b cs fin n ops m (Keep Y) k ds listed ρ w) : RE P b cs fin n ops m (Keep Y) k ds listed ρ w :=
  h fun g ρ w ha hi => by have := hK g ρ w hi; rwa [upds_agree ha] at this

/-- A resource of which only the blocks are known. -/
def loose (r : Rsc) : Rsc := ⟨r.fp, fun _ => True, fun _ h => h⟩
theorem Own.under {X : Nat → Prop} {w0 w1 : World} {L : List Rsc} {r : Rsc} (S : Own X w0 w L) (j : Nat) (hj : L[j]? = some r) (h : Keep r.fp w w1) : Own X w0 w1 (L.set j (loose r)) :=
  S.turn j hj h (fun _ _ h => h) trivial fun _ h => .inl h
end

section
variable {P : Program} {b : Frame} {cs : List Frame} {fin : Machine → Prop} {n : Nat} {k : List Item} {ρ : Env} {ds : List Deferred} {w w' : World} {ops : Array Oper} {m : Nat} {Y : Nat → Prop} {listed listed' : Array Bool}
  {d : Nat} {ty : TypeId} {pos : String} {af : Array Edge} {g : Option (Nat × Bool)} {v : Value} {T : TypeId} {x y : Operand}
/-- The place of a slice's element. -/
theorem e_index {α : Type} (L : Elt α) {l : List α} {j : Int} {q : α} (i : Nat) (hok : drawOk ops m = true) (ho : ops[i]? = some ⟨some d, .indexAddr T x y, ty, pos, af, g⟩) (him : Nat.blt i m = true) (hr : rdy ops listed i = true)
    (hl : listed.setIfInBounds i true = listed') (hg : gOk ops n ρ g = true) (hrd : Rd L w v l) (hx : ev n ρ x = v) (hy : ev n ρ y = .int .i64 j)
    (hu : ∀ w, (underlying T).run P w = .ok (.slice L.T) w) (hs : ∀ w, (sizeOf L.T).run P w = .ok L.sz w) (hb : 0 ≤ j) (hi : l[j.toNat]? = some q)
    (h : ∀ b' o', At L v j.toNat ⟨b', o', none⟩ → RE P b cs fin n ops m (Keep Y) k ds listed' (upd ρ d (.pointer (some ⟨b', o', none⟩))) w) :
    RE P b cs fin n ops m (Keep Y) k ds listed ρ w := by
  obtain ⟨p, cap, rfl, hc, hrow⟩ := hrd
  obtain ⟨b', o', rfl, hrw⟩ := hrow j.toNat q hi
  have hlt : j.toNat < l.length := (List.getElem?_eq_some_iff.1 hi).1
  exact e_exact i _ hok ho him hr hl (ex_x hg fun w1 _ => x_indexAddr_slice hx hy hu hs ⟨hb, by omega⟩) (h b' (o' + j.toNat * L.sz) ⟨b', o', _, _, rfl, rfl⟩)
end
theorem rd_row {α : Type} {E : Elt α} {w : World} {v : Value} {l : List α} {i b' o' : Nat} {a : α} (h : Rd E w v l) (hat : At E v i ⟨b', o', none⟩) (ha : l[i]? = some a) : Row w b' o' (E.enc a) := by
  obtain ⟨p, cap, rfl, _, hrow⟩ := h
  obtain ⟨b1, o1, rfl, hr⟩ := hrow i a ha
  obtain ⟨b2, o2, len, cap2, hv, hq⟩ := hat
  simp only [Value.slice.injEq, Option.some.injEq, Addr.mk.injEq, and_true] at hv hq
  obtain ⟨⟨rfl, rfl⟩, _⟩ := hv
  obtain ⟨rfl, rfl⟩ := hq
  exact hr

section
variable {P : Program} {n : Nat} {all : Array Oper} {ρ : Env} {w w' : World} {ty : TypeId} {pos : String} {af : Array Edge} {g : Option (Nat × Bool)} {o : Oper} {Φ : Value → World → Prop}
theorem s_skip (hg : gOk all n ρ o.guard = true) (hnd : ∀ c, o.op ≠ .defer c) (hr : (execOp (ev n ρ) o).run P w = .ok .skip w') (h : Φ undef w') : Sp P all n ρ o w Φ := by
  unfold Sp
  rw [if_pos hg]
  exact ⟨hnd, .inr (.inr ⟨w', hr, h⟩)⟩
variable {T : TypeId} {x y : Operand} {X : Nat → Prop} {w0 : World} {L : List Rsc} {d' : Option Nat} {α : Type} {E : Elt α} {v : Value} {b' o f i : Nat} {l : List α} {a a' : α}
theorem s_stores {X : Nat → Prop} {w0 : World} {L : List Rsc} {b' o : Nat} {c vs c' : List Value} {T0 : TypeId} {d' : Option Nat} (S : Own X w0 w L) (j : Nat) (hj : L[j]? = some (blk b' c T0)) (hg : gOk all n ρ g = true)
    (hx : ev n ρ x = .pointer (some ⟨b', o, none⟩)) (hy : (ev n ρ y).cells = vs.toArray) (h1 : ∀ v ∈ vs, v.oneCell' = true) (hs : ∀ w, (sizeOf T).run P w = .ok vs.length w) (ho : o + vs.length ≤ c.length)
    (hc : splice c o vs = c')
    (h : ∀ w', Own X w0 w' (L.set j (blk b' c' T0)) → Keep (· = b') w w' → Φ undef w') :
    Sp P all n ρ ⟨d', .store T x y, ty, pos, af, g⟩ w Φ := by
  subst hc
  refine s_skip hg nofun (w' := w.setRow b' (splice c o vs).toArray) ?_ (h _ (S.setRow j hj _) (Keep.setRow w _))
  have hr := run_storeCells_at P b' o T0 vs 0 c.toArray w (S.blk j hj) (by simpa using ho) h1
  simp only [execOp, hx, Instr.storeAt, Instr.sureAddr, Sem.run_bind, Sem.run_pure, Result.andThen_ok, storeVar, hs]
  rw [hy]
  simp only [List.size_toArray, ne_eq, not_true_eq_false, if_false]
  rw [hr]
  simp only [Result.andThen_ok, Nat.add_zero]
  rfl

theorem s_storev {b' o f : Nat} {i : Nat} {l : List α} {a a' : α} {vs : List Value} (S : Own X w0 w L) (j : Nat) (hj : L[j]? = some (vec E v l)) (hg : gOk all n ρ g = true) (hat : At E v i ⟨b', o, none⟩)
    (hx : ev n ρ x = .pointer (some ⟨b', o + f, none⟩)) (hy : (ev n ρ y).cells = vs.toArray) (hs : ∀ w, (sizeOf T).run P w = .ok vs.length w) (h1 : ∀ u ∈ vs, u.oneCell' = true) (ha : l[i]? = some a) (hf : f + vs.length ≤ E.sz)
    (he : splice (E.enc a) f vs = E.enc a') (h : ∀ w', Own X w0 w' (L.set j (vec E v (l.set i a'))) → Keep (vec E v l).fp w w' → Φ undef w') :
    Sp P all n ρ ⟨d', .store T x y, ty, pos, af, g⟩ w Φ := by
  obtain ⟨bb, oo, len, cap0, hv, hadr⟩ := hat
  have hok := S.at j hj
  rcases hok with ⟨rfl, rfl⟩ | ⟨b2, cap, c, hv2, g1, g2, g3, g4, hb⟩
  · cases hv
  · rw [hv2] at hv
    simp only [Value.slice.injEq, Option.some.injEq, Addr.mk.injEq, and_true] at hv
    obtain ⟨⟨rfl, rfl⟩, rfl, rfl⟩ := hv
    simp only [Addr.mk.injEq, and_true, Nat.zero_add] at hadr
    obtain ⟨rfl, rfl⟩ := hadr
    have hil : i < l.length := (List.getElem?_eq_some_iff.1 ha).1
    have hbound : i * E.sz + f + vs.length ≤ l.length * E.sz := by
      have : (i + 1) * E.sz ≤ l.length * E.sz := Nat.mul_le_mul_right _ hil
      rw [Nat.add_mul] at this; omega
    have hcl : l.length * E.sz ≤ c.length := by rw [g3]; exact Nat.mul_le_mul_right _ g1
    have hK : Keep (vec E v l).fp w (w.setRow b' (splice c (i * E.sz + f) vs).toArray) := (Keep.setRow w _).mono fun bb _ e => ⟨l.length, cap, by subst e; exact hv2⟩
    refine s_skip hg nofun (w' := w.setRow b' (splice c (i * E.sz + f) vs).toArray) ?_ (h _ (S.turn j hj hK (fun _ _ h => h) (.inr ⟨b', cap, splice c (i * E.sz + f) vs, by simpa using hv2, by simpa using g1, g2, ?_, ?_, setRow_heap w b' _ _ E.T _ hb⟩) (fun _ h => .inl h)) hK)
    · have hr := run_storeCells_at P b' (i * E.sz + f) E.T vs 0 c.toArray w hb (by simp; omega) h1
      simp only [execOp, hx, Instr.storeAt, Instr.sureAddr, Sem.run_bind, Sem.run_pure, Result.andThen_ok, storeVar, hs]
      rw [hy]
      simp only [List.size_toArray, ne_eq, not_true_eq_false, if_false]
      rw [hr]
      simp only [Result.andThen_ok, Nat.add_zero]
      rfl
    · rw [splice_length (by omega), g3]
    · rw [List.length_set, take_splice hbound hcl, g4, flatMap_splice E l i f a a' vs ha hf he]

theorem s_storev1 {u : Value} (S : Own X w0 w L) (j : Nat) (hj : L[j]? = some (vec E v l)) (hg : gOk all n ρ g = true) (hat : At E v i ⟨b', o, none⟩)
    (hx : ev n ρ x = .pointer (some ⟨b', o + f, none⟩)) (hy : ev n ρ y = u) (h1 : u.oneCell' = true) (hs : ∀ w, (sizeOf T).run P w = .ok 1 w) (ha : l[i]? = some a) (hf : f + 1 ≤ E.sz)
    (he : splice (E.enc a) f [u] = E.enc a') (h : ∀ w', Own X w0 w' (L.set j (vec E v (l.set i a'))) → Keep (vec E v l).fp w w' → Φ undef w') :
    Sp P all n ρ ⟨d', .store T x y, ty, pos, af, g⟩ w Φ := by
  have hcs : u.cells = #[u] := by cases u <;> first | rfl | simp [Value.oneCell'] at h1
  exact s_storev S j hj hg hat hx (vs := [u]) (by rw [hy, hcs]) hs (by simpa using h1) ha hf he h
theorem s_storevi {z : Int} (S : Own X w0 w L) (j : Nat) (hj : L[j]? = some (vec E v l)) (hg : gOk all n ρ g = true) (hat : At E v i ⟨b', o, none⟩)
    (hx : ev n ρ x = .pointer (some ⟨b', o + f, none⟩)) (hy : ev n ρ y = .int .i64 z) (hs : ∀ w, (sizeOf T).run P w = .ok 1 w) (ha : l[i]? = some a) (hf : f + 1 ≤ E.sz)
    (he : splice (E.enc a) f [.int .i64 z] = E.enc a') (h : ∀ w', Own X w0 w' (L.set j (vec E v (l.set i a'))) → Keep (vec E v l).fp w w' → Φ undef w') :
    Sp P all n ρ ⟨d', .store T x y, ty, pos, af, g⟩ w Φ := s_storev1 S j hj hg hat hx hy rfl hs ha hf he h
theorem s_storevb {t : Bool} (S : Own X w0 w L) (j : Nat) (hj : L[j]? = some (vec E v l)) (hg : gOk all n ρ g = true) (hat : At E v i ⟨b', o, none⟩)
    (hx : ev n ρ x = .pointer (some ⟨b', o + f, none⟩)) (hy : ev n ρ y = .bool t) (hs : ∀ w, (sizeOf T).run P w = .ok 1 w) (ha : l[i]? = some a) (hf : f + 1 ≤ E.sz)
    (he : splice (E.enc a) f [.bool t] = E.enc a') (h : ∀ w', Own X w0 w' (L.set j (vec E v (l.set i a'))) → Keep (vec E v l).fp w w' → Φ undef w') :
    Sp P all n ρ ⟨d', .store T x y, ty, pos, af, g⟩ w Φ := s_storev1 S j hj hg hat hx hy rfl hs ha hf he h
theorem s_storeva {c : List Value} (S : Own X w0 w L) (j : Nat) (hj : L[j]? = some (vec E v l)) (hg : gOk all n ρ g = true) (hat : At E v i ⟨b', o, none⟩)
    (hx : ev n ρ x = .pointer (some ⟨b', o, none⟩)) (hy : ev n ρ y = .agg c.toArray) (hs : ∀ w, (sizeOf T).run P w = .ok E.sz w) (ha : l[i]? = some a) (he : c = E.enc a')
    (h : ∀ w', Own X w0 w' (L.set j (vec E v (l.set i a'))) → Keep (vec E v l).fp w w' → Φ undef w') :
    Sp P all n ρ ⟨d', .store T x y, ty, pos, af, g⟩ w Φ := by
  subst he
  exact s_storev (f := 0) S j hj hg hat hx (vs := E.enc a') (by rw [hy]; rfl) (by rw [E.len]; exact hs) (E.one a') ha (by rw [E.len]; omega) (splice_all (by rw [E.len, E.len])) h
end
end Go.Vk
