/- Texts joined for claims: VkDraw2, VkCopy, VkYoung, VkForget, VkLate, VkLate2, VkLate3, VkMaps, VkMaps2, VkPanics, VkOps4, VkDeedMem, VkDeedChk, VkMarks. -/
import Derived.Test.YtdikpjkdbgfoaaaGreatKccae660a97
import Derived.Lib.Slices
import Derived.MapKept
import Derived.Laws.IdiomRangeMap
import Derived.Recover
/- The proof engine, part 15: regions that draw their order, in which operations change memory. Generic over the program. -/
namespace Go.Vk
open Go

section
variable {P : Program} {b : Frame} {cs : List Frame} {fin : Machine → Prop} {n : Nat} {k : List Item} {ρ : Env} {ds : List Deferred} {w w' : World} {ops : Array Oper} {m : Nat} {G : World → World → Prop}

/-- Whatever order is picked from here on; each step goes by G. -/
def AnyE (P : Program) (n : Nat) (ops : Array Oper) (m : Nat) (G : World → World → Prop) (K : Env → World → Prop) : Nat → Array Bool → Env → World → Prop
  | 0, listed, ρ, w => ((∀ i, i < m → listed.getD i true = true) → K ρ w) ∧ ∀ (i : Nat), i < m → rdy ops listed i = false
  | f + 1, listed, ρ, w => ((∀ i, i < m → listed.getD i true = true) → K ρ w) ∧ ∀ (i : Nat) (o : Oper), i < m → ops[i]? = some o → rdy ops listed i = true →
      Sp P ops n ρ o w fun v w2 => G w w2 ∧ AnyE P n ops m G K f (listed.setIfInBounds i true) (updO o.dst v ρ) w2

/-- It yields v and leaves the world as it is, whatever has come by G. -/
def Exact (P : Program) (ops : Array Oper) (n : Nat) (G : World → World → Prop) (ρ : Env) (o : Oper) (w : World) (v : Value) : Prop := ∀ w1, G w w1 → Sp P ops n ρ o w1 fun u w2 => u = v ∧ w2 = w1

theorem AnyE.first {K : Env → World → Prop} {i : Nat} {oi : Oper} {v : Value} (hr0 : ∀ w, G w w) (htr : ∀ {u v w}, G u v → G v w → G u w) (hok : DrawOk ops m) (hi : ops[i]? = some oi) (him : i < m) :
    ∀ (f : Nat) (listed : Array Bool) (ρ : Env) (w : World), rdy ops listed i = true → Exact P ops n G ρ oi w v →
      AnyE P n ops m G K f (listed.setIfInBounds i true) (updO oi.dst v ρ) w → AnyE P n ops m G K (f + 1) listed ρ w := by
  intro f
  induction f with
  | zero =>
    intro listed ρ w hr hy H
    refine ⟨fun hl => ?_, fun j oj hjm hj hrj => ?_⟩
    · have := (rdy_spec hr).1; rw [hl i him] at this; cases this
    · by_cases e : j = i
      · subst e
        have : oj = oi := Option.some.inj (hj.symm.trans hi)
        subst this
        exact (hy w (hr0 w)).mono fun u w2 ⟨hu, h2⟩ => by subst hu; subst h2; exact ⟨hr0 _, H⟩
      · have := H.2 j hjm
        rw [rdy_other e hrj] at this
        cases this
  | succ f ih =>
    intro listed ρ w hr hy H
    refine ⟨fun hl => ?_, fun j oj hjm hj hrj => ?_⟩
    · have := (rdy_spec hr).1; rw [hl i him] at this; cases this
    · by_cases e : j = i
      · subst e
        have : oj = oi := Option.some.inj (hj.symm.trans hi)
        subst this
        exact (hy w (hr0 w)).mono fun u w2 ⟨hu, h2⟩ => by subst hu; subst h2; exact ⟨hr0 _, H⟩
      · have h2 := H.2 j oj hjm hj (rdy_other e hrj)
        have hap : apartB ops oi oj = true := by
          rcases hok.apart i j oi oj him hjm (Ne.symm e) hi hj with h | h | h
          · obtain ⟨_, o', ho', hw'⟩ := rdy_spec hrj
            have : o' = oj := Option.some.inj (ho'.symm.trans hj)
            subst this
            have := hw' i h
            rw [getD_both (rdy_spec hr).1] at this; cases this
          · obtain ⟨_, o', ho', hw'⟩ := rdy_spec hr
            have : o' = oi := Option.some.inj (ho'.symm.trans hi)
            subst this
            have := hw' j h
            rw [getD_both (rdy_spec hrj).1] at this; cases this
          · exact h
        obtain ⟨a1, a2, a3⟩ := apartB_spec hap
        rw [Sp.congr (not_sel (hok.sel j oj hj)) a1] at h2
        refine h2.mono fun u w2 ⟨h3, h4⟩ => ⟨h3, ?_⟩
        refine ih (listed.setIfInBounds j true) (updO oj.dst u ρ) w2 (rdy_other (Ne.symm e) hr) (fun w3 h5 => ?_) ?_
        · rw [Sp.congr (not_sel (hok.sel i oi hi)) a3]
          exact hy w3 (htr h3 h5)
        · rw [Array.setIfInBounds_comm _ _ e, ← updO_comm ρ v u a2]
          exact h4

/-- The state in the midst of a region: which operations have come. -/
def RE (P : Program) (b : Frame) (cs : List Frame) (fin : Machine → Prop) (n : Nat) (ops : Array Oper) (m : Nat) (G : World → World → Prop) (k : List Item) (ds : List Deferred) (listed : Array Bool) (ρ : Env) (w : World) : Prop :=
  ∃ f, AnyE P n ops m G (fun ρ w => RunL P b cs fin n ops (ops.toList.drop m) k ρ ds w) f listed ρ w

/-- **A region that draws its order, and changes memory.** The blocks of Y may be changed on the way. -/
theorem r_drawE {id : Nat} (m : Nat) (Y : Nat → Prop) (hmo : P.follows .mixedOrders = true) (hok : drawOk ops m = true)
    (h : ∀ w1, Le w w1 → RE P b cs fin n ops m (Keep Y) k ds (Array.replicate ops.size false) ρ w1) :
    Run P b cs fin n (.code (.region id ops true) :: k) ρ ds w := by
  refine Run.of_step stepR_region_draw ?_
  have hok := drawOk_spec hok
  obtain ⟨f, hf⟩ := h { w with drawn := w.drawn + 1 } (Le.drew w)
  have := any_run' (P := P) (n := n) (b := b) (cs := cs) (fin := fin) (k := k) (ds := ds) hok (A := AnyE P n ops m (Keep Y) fun ρ w => RunL P b cs fin n ops (ops.toList.drop m) k ρ ds w)
    (fun f listed ρ w h hl => by cases f with
      | zero => exact h.1 hl
      | succ f => exact h.1 hl)
    (fun f listed ρ w i o h hi ho hr => by cases f with
      | zero => have := h.2 i hi; rw [hr] at this; cases this
      | succ f => exact ⟨f, (h.2 i o hi ho hr).mono fun _ _ h => h.2⟩)
    (fun _ _ h => h) ops.size f (w.tape w.drawn (.order b.fn id)) (Array.replicate ops.size false) ρ { w with drawn := w.drawn + 1 } hf
    ⟨by simp, fun j o ho hj => by
      have : j < ops.size := (Array.getElem?_eq_some_iff.1 ho).1
      simp [this] at hj⟩ (fun i _ hi => by simp [hi]) (by omega)
  simp only [Region.schedule, hmo, Bool.true_or, if_true, Region.linearise]
  exact this

variable {Y : Nat → Prop} {listed listed' : Array Bool}

/-- A quiet operation, of those that are ready, is taken first. -/
theorem e_exact {v : Value} (i : Nat) (o : Oper) (hok : drawOk ops m = true) (ho : ops[i]? = some o) (him : Nat.blt i m = true) (hr : rdy ops listed i = true) (hl : listed.setIfInBounds i true = listed')
    (hx : Exact P ops n (Keep Y) ρ o w v) (h : RE P b cs fin n ops m (Keep Y) k ds listed' (updO o.dst v ρ) w) : RE P b cs fin n ops m (Keep Y) k ds listed ρ w := by
  subst hl
  obtain ⟨f, hf⟩ := h
  exact ⟨f + 1, AnyE.first (fun w => Keep.refl Y w) (fun h h' => h.trans h') (drawOk_spec hok) ho (by simpa using him) f listed ρ w hr hx hf⟩

/-- All have come. -/
theorem e_done (hr : ((List.range m).all fun i => !rdy ops listed i) = true) (h : RunL P b cs fin n ops (ops.toList.drop m) k ρ ds w) : RE P b cs fin n ops m G k ds listed ρ w := by
  refine ⟨0, fun _ => h, fun i hi => ?_⟩
  have := List.all_eq_true.1 hr i (List.mem_range.2 hi)
  simpa using this

theorem filter_lt {α : Type} {p q : α → Bool} {x : α} : ∀ {l : List α}, x ∈ l → (∀ y, q y = true → p y = true) → p x = true → q x = false → (l.filter q).length + 1 ≤ (l.filter p).length := by
  intro l
  induction l with
  | nil => intro h; cases h
  | cons y l ih =>
    intro hx hpq hp hq
    have hle : (l.filter q).length ≤ (l.filter p).length := by
      clear ih hx
      induction l with
      | nil => simp
      | cons z l ih =>
        by_cases hz : q z = true
        · simp [hz, hpq z hz, ih]
        · by_cases hz' : p z = true
          · simp [hz, hz']; omega
          · simp [hz, hz', ih]
    by_cases e : x = y
    · subst e; simp [hp, hq]; exact hle
    · have hx' : x ∈ l := by rcases List.mem_cons.1 hx with h | h; exact absurd h e; exact h
      have := ih hx' hpq hp hq
      by_cases hz : q y = true
      · simp [hz, hpq y hz]; exact this
      · by_cases hz' : p y = true
        · simp [hz, hz']; omega
        · simp [hz, hz']; exact this

/-- How many are still to come. -/
def left (m : Nat) (listed : Array Bool) : Nat := ((List.range m).filter fun i => !listed.getD i true).length
theorem left_le (m : Nat) (listed : Array Bool) : left m listed ≤ m := by
  have := List.length_filter_le (fun i => !listed.getD i true) (List.range m); simpa [left] using this
theorem left_set {x : Nat} (hx : x < m) (hl : listed.getD x true = false) : left m (listed.setIfInBounds x true) + 1 ≤ left m listed := by
  refine filter_lt (x := x) (List.mem_range.2 hx) (fun y hy => ?_) (by simp [hl]) ?_
  · simp only [Bool.not_eq_true'] at hy ⊢
    cases h : listed.getD y true with
    | false => rfl
    | true => rw [getD_set_mono h] at hy; cases hy
  · have : x < listed.size := by
      rcases Nat.lt_or_ge x listed.size with h | h
      · exact h
      · simp [h] at hl
    simp [this]

theorem AnyE.trunc {K : Env → World → Prop} : ∀ (f F : Nat) (listed : Array Bool) (ρ : Env) (w : World), left m listed ≤ f → AnyE P n ops m G K F listed ρ w → AnyE P n ops m G K f listed ρ w := by
  intro f
  induction f with
  | zero =>
    intro F listed ρ w hl h
    refine ⟨?_, fun i hi => ?_⟩
    · cases F with
      | zero => exact h.1
      | succ F => exact h.1
    · cases hr : rdy ops listed i with
      | false => rfl
      | true =>
        have := left_set hi (rdy_spec hr).1
        omega
  | succ f ih =>
    intro F listed ρ w hl h
    refine ⟨?_, fun i o hi ho hr => ?_⟩
    · cases F with
      | zero => exact h.1
      | succ F => exact h.1
    · cases F with
      | zero => have := h.2 i hi; rw [hr] at this; cases this
      | succ F =>
        have hls := left_set hi (rdy_spec hr).1
        exact (h.2 i o hi ho hr).mono fun v w2 ⟨h1, h2⟩ => ⟨h1, ih F _ _ _ (by omega) h2⟩

def Each (Q : Nat → Prop) : List Nat → Prop
  | [] => True
  | i :: l => Q i ∧ Each Q l
theorem Each.mem {Q : Nat → Prop} : ∀ {l : List Nat} {i : Nat}, Each Q l → i ∈ l → Q i := by
  intro l
  induction l with
  | nil => intro i _ h; cases h
  | cons j l ih =>
    intro i h hi
    rcases List.mem_cons.1 hi with rfl | hi
    · exact h.1
    · exact ih h.2 hi

/-- What it takes that operation i comes next. -/
def Nx (P : Program) (b : Frame) (cs : List Frame) (fin : Machine → Prop) (n : Nat) (ops : Array Oper) (m : Nat) (Y : Nat → Prop) (k : List Item) (ds : List Deferred) (listed : Array Bool) (ρ : Env) (w : World) (i : Nat) : Prop :=
  ∃ o listed', ops[i]? = some o ∧ listed.setIfInBounds i true = listed' ∧ Sp P ops n ρ o w fun v w2 => Keep Y w w2 ∧ RE P b cs fin n ops m (Keep Y) k ds listed' (updO o.dst v ρ) w2

/-- Those that may come next. -/
theorem e_next (is : List Nat) (hl : ((List.range m).all fun i => listed.getD i true) = false) (hr : ((List.range m).all fun j => is.contains j || !rdy ops listed j) = true)
    (h : Each (Nx P b cs fin n ops m Y k ds listed ρ w) is) : RE P b cs fin n ops m (Keep Y) k ds listed ρ w := by
  refine ⟨m + 1, fun hall => ?_, fun i o hi ho hri => ?_⟩
  · rw [List.all_eq_true.2 fun i hi => hall i (List.mem_range.1 hi)] at hl; cases hl
  · have h1 := List.all_eq_true.1 hr i (List.mem_range.2 hi)
    rw [hri] at h1
    obtain ⟨o', listed', ho', hl', hs⟩ := h.mem (i := i) (by simpa using h1)
    have : o' = o := Option.some.inj (ho'.symm.trans ho)
    subst this
    subst hl'
    exact hs.mono fun v w2 ⟨h1, f, hf⟩ => ⟨h1, hf.trunc _ _ _ _ _ (left_le _ _)⟩
end

section
variable {P : Program} {n : Nat} {all : Array Oper} {ρ : Env} {w w' : World} {d : Nat} {op : Op} {ty : TypeId} {pos : String} {af : Array Edge} {g : Option (Nat × Bool)} {v : Value} {Y : Nat → Prop} {o : Oper} {Φ : Value → World → Prop}

/-- A quiet operation. -/
theorem ex_x (hg : gOk all n ρ g = true) (hx : ∀ w1, Keep Y w w1 → X P (ev n ρ) op ty w1 v w1) : Exact P all n (Keep Y) ρ ⟨some d, op, ty, pos, af, g⟩ w v := by
  intro w1 h1
  unfold Sp
  rw [if_pos hg]
  exact ⟨(hx w1 h1).1, .inl ⟨v, w1, (hx w1 h1).2 .., rfl, rfl⟩⟩
theorem ex_pass (hg : gOk all n ρ o.guard = false) : Exact P all n (Keep Y) ρ o w undef := by
  intro w1 h1
  unfold Sp
  rw [if_neg (by simp [hg])]
  exact ⟨rfl, rfl⟩
/-- An operation that yields a value and changes the world. -/
theorem s_x {d' : Option Nat} (hg : gOk all n ρ g = true) (hx : X P (ev n ρ) op ty w v w') (h : Φ v w') : Sp P all n ρ ⟨d', op, ty, pos, af, g⟩ w Φ := by
  unfold Sp
  rw [if_pos hg]
  exact ⟨hx.1, .inl ⟨v, w', hx.2 .., h⟩⟩
theorem s_pass (hg : gOk all n ρ o.guard = false) (h : Φ undef w) : Sp P all n ρ o w Φ := by
  unfold Sp
  rw [if_neg (by simp [hg])]
  exact h
/-- A call. -/
theorem s_call (hg : gOk all n ρ o.guard = true) (hnd : ∀ c, o.op ≠ .defer c) {f : FuncId} {args : Array Value} (hr : (execOp (ev n ρ) o).run P w = .ok (.enter f args) w) (hc : Cl P f args w Φ) : Sp P all n ρ o w Φ := by
  unfold Sp
  rw [if_pos hg]
  exact ⟨hnd, .inr (.inl ⟨f, args, w, hr, hc⟩)⟩
end

section
variable {P : Program} {n : Nat} {all : Array Oper} {ρ : Env} {w w' : World} {d : Nat} {ty : TypeId} {pos : String} {af : Array Edge} {g : Option (Nat × Bool)} {v : Value} {T : TypeId} {x y : Operand} {Φ : Value → World → Prop}
  {X : Nat → Prop} {w0 : World} {L : List Rsc} {α : Type} {E : Elt α}
theorem s_buildSlice (E : Elt α) {len : Nat} {parts : List (Nat × Operand)} (as : List α) {z : Value} (S : Own X w0 w L) (hg : gOk all n ρ g = true) (hu : ∀ w, (underlying T).run P w = .ok (.slice E.T) w)
    (hs : ∀ w, (sizeOf E.T).run P w = .ok E.sz w) (hz : ∀ w, (zeroValue E.T).run P w = .ok z w) (hl : as.length = len) (hp : PartsOk (ev n ρ) E 0 parts as) (hsm : len * E.sz ≤ 16777216)
    (h : ∀ v w', Own X w0 w' (L ++ [vec E v as]) → Le w w' → Φ v w') :
    Sp P all n ρ ⟨some d, .buildSlice T len parts.toArray, ty, pos, af, g⟩ w Φ := by
  have hpos := E.pos
  have hlen : len ≤ maxLen := by
    have : len ≤ len * E.sz := Nat.le_mul_of_pos_right _ hpos
    simp only [maxLen]; omega
  subst hl
  refine s_x hg (v := .slice (some ⟨w.heap.size, 0, none⟩) as.length as.length) (w' := w.alloc (.cells (as.flatMap E.enc).toArray E.T (0, 0))) ⟨nofun, fun _ _ _ _ => ?_⟩
    (h _ _ (S.add (Le.alloc_cells _ _ _) (vec_new (Nat.le_refl _) hlen (flatMap_enc_length E as) (by rw [List.take_of_length_le]; rw [flatMap_enc_length]; exact Nat.le_refl _))) (Le.alloc_cells _ _ _))
  simp only [execOp, Instr.buildSlice, Sem.run_bind, hu, hs, Result.andThen_ok]
  rw [if_neg (by simpa using hsm)]
  have hfill : ∀ zz : Array Value, Instr.fill (fun i => some (i * E.sz, E.sz)) ((Array.range (as.length * E.sz)).map (zz[· % zz.size]!)) (parts.map fun p => (p.1, ev n ρ p.2)) = some (as.flatMap E.enc).toArray := by
    intro zz
    have := fill_parts (E := E) (ev := ev n ρ) parts as 0 [] ((Array.range (as.length * E.sz)).map (zz[· % zz.size]!)).toList hp (by simp) (by simp)
    simpa only [List.nil_append, Array.toArray_toList] using this
  simp only [List.map_toArray]
  by_cases h0 : as.length * E.sz = 0
  · rw [if_pos h0]
    simp only [Sem.run_bind, Sem.run_pure, Result.andThen_ok, hfill]
    rfl
  · rw [if_neg h0]
    simp only [Sem.run_bind, hz, Sem.run_pure, Result.andThen_ok, hfill]
    rfl

theorem s_make (E : Elt α) (a0 : α) {len cap : Nat} {ti : TypeInfo} {z : Value} (S : Own X w0 w L) (hg : gOk all n ρ g = true) (hu : ∀ w, (underlying T).run P w = .ok (.slice E.T) w)
    (hs : ∀ w, (sizeOf E.T).run P w = .ok E.sz w) (hti : ∀ w, (typeInfo E.T).run P w = .ok ti w) (hz : ∀ w, (zeroValue E.T).run P w = .ok z w) (hzc : z.cells = E.zero.toArray) (h0 : E.enc a0 = E.zero)
    (hx : ev n ρ x = .int .i64 len) (hy : ev n ρ y = .int .i64 cap) (hlc : len ≤ cap) (hm : cap ≤ maxLen) (hb : cap * ti.bytes ≤ 140737488355328)
    (h : ∀ v w', (∃ b, v = .slice (some ⟨b, 0, none⟩) len cap) → Own X w0 w' (L ++ [vec E v (List.replicate len a0)]) → Le w w' → Φ v w') :
    Sp P all n ρ ⟨some d, .makeSlice T x y, ty, pos, af, g⟩ w Φ := by
  have hpos := E.pos
  have hm' : cap ≤ 9223372036854775807 := by simp only [maxLen] at hm; omega
  have hvn := vec_new (w := w) (E := E) (c := (List.replicate cap E.zero).flatten) (l := List.replicate len a0) (cap := cap) (by simpa using hlc) hm (by simp [E.zlen]) (by
    rw [List.length_replicate, flatMap_replicate, h0]
    obtain ⟨e, rfl⟩ : ∃ e, cap = len + e := ⟨cap - len, by omega⟩
    rw [← List.replicate_append_replicate, List.flatten_append, List.take_append_of_le_length (by simp [E.zlen]), List.take_of_length_le (by simp [E.zlen])])
  rw [List.length_replicate] at hvn
  refine s_x hg (v := .slice (some ⟨w.heap.size, 0, none⟩) len cap) (w' := w.alloc (.cells (List.replicate cap E.zero).flatten.toArray E.T (0, 0))) ⟨nofun, fun _ _ _ _ => ?_⟩
    (h _ _ ⟨_, rfl⟩ (S.add (Le.alloc_cells _ _ _) hvn) (Le.alloc_cells _ _ _))
  have hw1 : IntKind.i64.wrap (len : Int) = len := IntWalk.i64_in _ (by omega)
  have hw2 : IntKind.i64.wrap (cap : Int) = cap := IntWalk.i64_in _ (by omega)
  have eb : ∀ m : Nat, (ti.bytes : Int) * (m : Int) = ((m * ti.bytes : Nat) : Int) := fun m => by rw [Int.natCast_mul, Int.mul_comm]
  have hlen : len * ti.bytes ≤ 140737488355328 := Nat.le_trans (Nat.mul_le_mul_right _ hlc) hb
  have hroom : ∀ w, (askRoom (cap * ti.bytes)).run P w = .ok () w := by
    intro w
    unfold askRoom roomBytes
    rw [if_neg (by omega)]
    rfl
  have hcells : ∀ zz : Array Value, (cap * E.sz = 0 ∨ zz = E.zero.toArray) → (Array.range (cap * E.sz)).map (fun i => zz[i % zz.size]!) = (List.replicate cap E.zero).flatten.toArray := by
    intro zz hz0
    by_cases hc : cap * E.sz = 0
    · have : cap = 0 := by
        rcases Nat.mul_eq_zero.1 hc with h | h
        · exact h
        · omega
      subst this
      simp
    · have hzz := hz0.resolve_left hc
      have := range_zero E.zero cap
      rw [← this, E.zlen, hzz]
      apply Array.ext'
      simp [E.zlen]
  have htl : ∀ m : Nat, m * ti.bytes ≤ 140737488355328 → (decide ((m : Int) < 0) || decide ((ti.bytes : Int) * (m : Int) > 2 ^ 48)) = false := by
    intro m hm
    rw [eb]
    have h1 : ¬ ((m : Int) < 0) := by omega
    have h2 : ¬ (((m * ti.bytes : Nat) : Int) > 2 ^ 48) := by
      rw [show (2 : Int) ^ 48 = 281474976710656 from rfl]; omega
    simp only [h1, h2, decide_false, Bool.or_false]
  simp only [execOp, Instr.makeSlice, Sem.run_bind, hu, Result.andThen_ok, hx, hy, asInt, asIntOf, Sem.run_pure, hti, hw1, hw2, htl cap hb, htl len hlen]
  have h3 : ¬ ((len : Int) < 0) := by omega
  have h4 : ¬ ((len : Int) > (cap : Int)) := by omega
  simp only [h3, h4, decide_false, Bool.or_false, Bool.false_eq_true, if_false, Int.toNat_natCast]
  by_cases h0 : cap * E.sz = 0
  · simp only [Sem.run_bind, hroom, Result.andThen_ok, hs]
    rw [if_pos h0]
    simp only [Sem.run_bind, Sem.run_pure, Result.andThen_ok, hcells _ (.inl h0)]
    rfl
  · simp only [Sem.run_bind, hroom, Result.andThen_ok, hs]
    rw [if_neg h0]
    simp only [Sem.run_bind, hz, hzc, Sem.run_pure, Result.andThen_ok, hcells _ (.inr rfl)]
    rfl


theorem s_append (E : Elt α) {i : TypeInfo} {z : Value} {xv : Value} {l xs : List α} (S : Own X w0 w L) (j : Nat) (hj : L[j]? = some (vec E v l)) (hg : gOk all n ρ g = true) (hx : ev n ρ x = v) (hy : ev n ρ y = xv) (hr : Rd E w xv xs)
    (ht : P.underlying T = some (.slice E.T)) (hi : P.info? E.T = some i) (hz : i.zero = some z) (hsz : i.size = E.sz) (hzc : z.cells.size = E.sz)
    (h63 : l.length + xs.length ≤ maxLen) (h47 : (l.length + xs.length) * i.bytes ≤ 140737488355328)
    (h : ∀ v' w', Own X w0 w' (L.set j (vec E v' (l ++ xs))) → Keep (vec E v l).fp w w' → (l ++ xs ≠ [] → ∃ b cap, v' = .slice (some ⟨b, 0, none⟩) (l.length + xs.length) cap) → Φ v' w') :
    Sp P all n ρ ⟨some d, .call ⟨.builtin .append, #[x, y], #[T, T]⟩, ty, pos, af, g⟩ w Φ := by
  obtain ⟨v', w', hrun, h1, h2, h3⟩ := run_append_vec (P := P) (ty := ty) S j hj hr ht hi hz hsz hzc h63 h47
  refine s_x hg ⟨nofun, fun _ _ _ _ => ?_⟩ (h v' w' h1 h2 h3)
  simp only [execOp, resolve, Sem.run_bind, Sem.run_pure, Result.andThen_ok, invoke, builtin, List.map_toArray, List.map_cons, List.map_nil, hx, hy, hrun]

theorem s_box {X : Nat → Prop} {w0 : World} {L : List Rsc} {c : List Value} (S : Own X w0 w L) (hg : gOk all n ρ g = true) (hx : (ev n ρ x).cells = c.toArray)
    (h : ∀ b' w', Own X w0 w' (L ++ [blk b' c T]) → Le w w' → Φ (.pointer (some ⟨b', 0, none⟩)) w') :
    Sp P all n ρ ⟨some d, .box T x, ty, pos, af, g⟩ w Φ := by
  refine s_x hg (v := .pointer (some ⟨w.heap.size, 0, none⟩)) (w' := w.alloc (.cells c.toArray T (0, 0))) ⟨nofun, fun _ _ _ _ => ?_⟩ (h _ _ (S.alloc c T) (Le.alloc_cells _ _ _))
  simp only [execOp, Instr.box, Sem.run_bind, run_newVar, Result.andThen_ok, Sem.run_pure, hx]

theorem s_alloc {X : Nat → Prop} {w0 : World} {L : List Rsc} {c : List Value} {z : Value} (S : Own X w0 w L) (hg : gOk all n ρ g = true) (hz : ∀ w, (zeroValue T).run P w = .ok z w) (hx : z.cells = c.toArray)
    (h : ∀ b' w', Own X w0 w' (L ++ [blk b' c T]) → Le w w' → Φ (.pointer (some ⟨b', 0, none⟩)) w') :
    Sp P all n ρ ⟨some d, .alloc T, ty, pos, af, g⟩ w Φ := by
  refine s_x hg (v := .pointer (some ⟨w.heap.size, 0, none⟩)) (w' := w.alloc (.cells c.toArray T (0, 0))) ⟨nofun, fun _ _ _ _ => ?_⟩ (h _ _ (S.alloc c T) (Le.alloc_cells _ _ _))
  simp only [execOp, Instr.alloc, Sem.run_bind, hz, run_newVar, Result.andThen_ok, Sem.run_pure, hx]

theorem s_callf {all : Array Oper} {d' : Option Nat} {F : Operand} {as : List Operand} {ts : Array TypeId} {f : FuncId} (first cap vals : List Value)
    (hg : gOk all n ρ g = true) (hF : ev n ρ F = .func (.func f) first.toArray cap.toArray) (he : ∀ args w, (callFunc f args).run P w = .ok (.enter f args) w) (ha : first ++ as.map (ev n ρ) ++ cap = vals)
    (hc : Cl P f vals.toArray w Φ) : Sp P all n ρ ⟨d', .call ⟨.value F, as.toArray, ts⟩, ty, pos, af, g⟩ w Φ := by
  subst ha
  refine s_call hg nofun ?_ hc
  exact run_call hF he rfl
end

section
variable {P : Program} {b : Frame} {cs : List Frame} {fin : Machine → Prop} {n : Nat} {k : List Item} {ρ : Env} {ds : List Deferred} {w w' : World} {ops : Array Oper} {m : Nat} {Y : Nat → Prop} {listed : Array Bool}
theorem e_split {d : Nat} {t : Bool} (hd : ρ d = .bool t) (ht : t = true → RE P b cs fin n ops m (Keep Y) k ds listed (upd ρ d (.bool true)) w) (hf : t = false → RE P b cs fin n ops m (Keep Y) k ds listed (upd ρ d (.bool false)) w) :
    RE P b cs fin n ops m (Keep Y) k ds listed ρ w := by
  cases t
  · have := hf rfl; rwa [upd_self hd] at this
  · have := ht rfl; rwa [upd_self hd] at this
theorem e_splitd {d : Nat} {p : Prop} [Decidable p] (hd : ρ d = .bool (decide p)) (ht : p → RE P b cs fin n ops m (Keep Y) k ds listed (upd ρ d (.bool true)) w) (hf : ¬ p → RE P b cs fin n ops m (Keep Y) k ds listed (upd ρ d (.bool false)) w) :
    RE P b cs fin n ops m (Keep Y) k ds listed ρ w := e_split hd (fun h => ht (of_decide_eq_true h)) (fun h => hf (of_decide_eq_false h))
/-- Behind these operations, in whatever order they came, only the named slots are known. -/
theorem e_cut {G : Type} (slots : G → List (Nat × Value)) (I : G → World → Prop)
    (hK : ∀ g ρ w, I g w → RunL P b cs fin n ops (ops.toList.drop m) k (upds ρ (slots g)) ds w)
    (h : (∀ g ρ w, Agree ρ (slots g) → I g w → RunL P b cs fin n ops (ops.toList.drop m) k ρ ds w) → RE P b cs fin n ops m (Keep Y) k ds listed ρ w) : RE P b cs fin n ops m (Keep Y) k ds listed ρ w :=
  h fun g ρ w ha hi => by have := hK g ρ w hi; rwa [upds_agree ha] at this

/-- A resource of which only the blocks are known. -/
def loose (r : Rsc) : Rsc := ⟨r.fp, fun _ => True, fun _ h => h⟩
theorem Own.under {X : Nat → Prop} {w0 w1 : World} {L : List Rsc} {r : Rsc} (S : Own X w0 w L) (j : Nat) (hj : L[j]? = some r) (h : Keep r.fp w w1) : Own X w0 w1 (L.set j (loose r)) :=
  S.turn j hj h (fun _ _ h => h) trivial fun _ h => .inl h
end

section
variable {P : Program} {b : Frame} {cs : List Frame} {fin : Machine → Prop} {n : Nat} {k : List Item} {ρ : Env} {ds : List Deferred} {w w' : World} {ops : Array Oper} {m : Nat} {Y : Nat → Prop} {listed listed' : Array Bool}
  {d : Nat} {ty : TypeId} {pos : String} {af : Array Edge} {g : Option (Nat × Bool)} {v : Value} {T : TypeId} {x y : Operand}
/-- The place of a slice's element. -/
theorem e_index {α : Type} (L : Elt α) {l : List α} {j : Int} {q : α} (i : Nat) (hok : drawOk ops m = true) (ho : ops[i]? = some ⟨some d, .indexAddr T x y, ty, pos, af, g⟩) (him : Nat.blt i m = true) (hr : rdy ops listed i = true)
    (hl : listed.setIfInBounds i true = listed') (hg : gOk ops n ρ g = true) (hrd : Rd L w v l) (hx : ev n ρ x = v) (hy : ev n ρ y = .int .i64 j)
    (hu : ∀ w, (underlying T).run P w = .ok (.slice L.T) w) (hs : ∀ w, (sizeOf L.T).run P w = .ok L.sz w) (hb : 0 ≤ j) (hi : l[j.toNat]? = some q)
    (h : ∀ b' o', At L v j.toNat ⟨b', o', none⟩ → RE P b cs fin n ops m (Keep Y) k ds listed' (upd ρ d (.pointer (some ⟨b', o', none⟩))) w) :
    RE P b cs fin n ops m (Keep Y) k ds listed ρ w := by
  obtain ⟨p, cap, rfl, hc, hrow⟩ := hrd
  obtain ⟨b', o', rfl, hrw⟩ := hrow j.toNat q hi
  have hlt : j.toNat < l.length := (List.getElem?_eq_some_iff.1 hi).1
  exact e_exact i _ hok ho him hr hl (ex_x hg fun w1 _ => x_indexAddr_slice hx hy hu hs ⟨hb, by omega⟩) (h b' (o' + j.toNat * L.sz) ⟨b', o', _, _, rfl, rfl⟩)
end
theorem rd_row {α : Type} {E : Elt α} {w : World} {v : Value} {l : List α} {i b' o' : Nat} {a : α} (h : Rd E w v l) (hat : At E v i ⟨b', o', none⟩) (ha : l[i]? = some a) : Row w b' o' (E.enc a) := by
  obtain ⟨p, cap, rfl, _, hrow⟩ := h
  obtain ⟨b1, o1, rfl, hr⟩ := hrow i a ha
  obtain ⟨b2, o2, len, cap2, hv, hq⟩ := hat
  simp only [Value.slice.injEq, Option.some.injEq, Addr.mk.injEq, and_true] at hv hq
  obtain ⟨⟨rfl, rfl⟩, _⟩ := hv
  obtain ⟨rfl, rfl⟩ := hq
  exact hr

section
variable {P : Program} {n : Nat} {all : Array Oper} {ρ : Env} {w w' : World} {ty : TypeId} {pos : String} {af : Array Edge} {g : Option (Nat × Bool)} {o : Oper} {Φ : Value → World → Prop}
theorem s_skip (hg : gOk all n ρ o.guard = true) (hnd : ∀ c, o.op ≠ .defer c) (hr : (execOp (ev n ρ) o).run P w = .ok .skip w') (h : Φ undef w') : Sp P all n ρ o w Φ := by
  unfold Sp
  rw [if_pos hg]
  exact ⟨hnd, .inr (.inr ⟨w', hr, h⟩)⟩
variable {T : TypeId} {x y : Operand} {X : Nat → Prop} {w0 : World} {L : List Rsc} {d' : Option Nat} {α : Type} {E : Elt α} {v : Value} {b' o f i : Nat} {l : List α} {a a' : α}
theorem s_stores {X : Nat → Prop} {w0 : World} {L : List Rsc} {b' o : Nat} {c vs c' : List Value} {T0 : TypeId} {d' : Option Nat} (S : Own X w0 w L) (j : Nat) (hj : L[j]? = some (blk b' c T0)) (hg : gOk all n ρ g = true)
    (hx : ev n ρ x = .pointer (some ⟨b', o, none⟩)) (hy : (ev n ρ y).cells = vs.toArray) (h1 : ∀ v ∈ vs, v.oneCell' = true) (hs : ∀ w, (sizeOf T).run P w = .ok vs.length w) (ho : o + vs.length ≤ c.length)
    (hc : splice c o vs = c')
    (h : ∀ w', Own X w0 w' (L.set j (blk b' c' T0)) → Keep (· = b') w w' → Φ undef w') :
    Sp P all n ρ ⟨d', .store T x y, ty, pos, af, g⟩ w Φ := by
  subst hc
  refine s_skip hg nofun (w' := w.setRow b' (splice c o vs).toArray) ?_ (h _ (S.setRow j hj _) (Keep.setRow w _))
  have hr := run_storeCells_at P b' o T0 vs 0 c.toArray w (S.blk j hj) (by simpa using ho) h1
  simp only [execOp, hx, Instr.storeAt, Instr.sureAddr, Sem.run_bind, Sem.run_pure, Result.andThen_ok, storeVar, hs]
  rw [hy]
  simp only [List.size_toArray, ne_eq, not_true_eq_false, if_false]
  rw [hr]
  simp only [Result.andThen_ok, Nat.add_zero]
  rfl

theorem s_storev {b' o f : Nat} {i : Nat} {l : List α} {a a' : α} {vs : List Value} (S : Own X w0 w L) (j : Nat) (hj : L[j]? = some (vec E v l)) (hg : gOk all n ρ g = true) (hat : At E v i ⟨b', o, none⟩)
    (hx : ev n ρ x = .pointer (some ⟨b', o + f, none⟩)) (hy : (ev n ρ y).cells = vs.toArray) (hs : ∀ w, (sizeOf T).run P w = .ok vs.length w) (h1 : ∀ u ∈ vs, u.oneCell' = true) (ha : l[i]? = some a) (hf : f + vs.length ≤ E.sz)
    (he : splice (E.enc a) f vs = E.enc a') (h : ∀ w', Own X w0 w' (L.set j (vec E v (l.set i a'))) → Keep (vec E v l).fp w w' → Φ undef w') :
    Sp P all n ρ ⟨d', .store T x y, ty, pos, af, g⟩ w Φ := by
  obtain ⟨bb, oo, len, cap0, hv, hadr⟩ := hat
  have hok := S.at j hj
  rcases hok with ⟨rfl, rfl⟩ | ⟨b2, cap, c, hv2, g1, g2, g3, g4, hb⟩
  · cases hv
  · rw [hv2] at hv
    simp only [Value.slice.injEq, Option.some.injEq, Addr.mk.injEq, and_true] at hv
    obtain ⟨⟨rfl, rfl⟩, rfl, rfl⟩ := hv
    simp only [Addr.mk.injEq, and_true, Nat.zero_add] at hadr
    obtain ⟨rfl, rfl⟩ := hadr
    have hil : i < l.length := (List.getElem?_eq_some_iff.1 ha).1
    have hbound : i * E.sz + f + vs.length ≤ l.length * E.sz := by
      have : (i + 1) * E.sz ≤ l.length * E.sz := Nat.mul_le_mul_right _ hil
      rw [Nat.add_mul] at this; omega
    have hcl : l.length * E.sz ≤ c.length := by rw [g3]; exact Nat.mul_le_mul_right _ g1
    have hK : Keep (vec E v l).fp w (w.setRow b' (splice c (i * E.sz + f) vs).toArray) := (Keep.setRow w _).mono fun bb _ e => ⟨l.length, cap, by subst e; exact hv2⟩
    refine s_skip hg nofun (w' := w.setRow b' (splice c (i * E.sz + f) vs).toArray) ?_ (h _ (S.turn j hj hK (fun _ _ h => h) (.inr ⟨b', cap, splice c (i * E.sz + f) vs, by simpa using hv2, by simpa using g1, g2, ?_, ?_, setRow_heap w b' _ _ E.T _ hb⟩) (fun _ h => .inl h)) hK)
    · have hr := run_storeCells_at P b' (i * E.sz + f) E.T vs 0 c.toArray w hb (by simp; omega) h1
      simp only [execOp, hx, Instr.storeAt, Instr.sureAddr, Sem.run_bind, Sem.run_pure, Result.andThen_ok, storeVar, hs]
      rw [hy]
      simp only [List.size_toArray, ne_eq, not_true_eq_false, if_false]
      rw [hr]
      simp only [Result.andThen_ok, Nat.add_zero]
      rfl
    · rw [splice_length (by omega), g3]
    · rw [List.length_set, take_splice hbound hcl, g4, flatMap_splice E l i f a a' vs ha hf he]

theorem s_storev1 {u : Value} (S : Own X w0 w L) (j : Nat) (hj : L[j]? = some (vec E v l)) (hg : gOk all n ρ g = true) (hat : At E v i ⟨b', o, none⟩)
    (hx : ev n ρ x = .pointer (some ⟨b', o + f, none⟩)) (hy : ev n ρ y = u) (h1 : u.oneCell' = true) (hs : ∀ w, (sizeOf T).run P w = .ok 1 w) (ha : l[i]? = some a) (hf : f + 1 ≤ E.sz)
    (he : splice (E.enc a) f [u] = E.enc a') (h : ∀ w', Own X w0 w' (L.set j (vec E v (l.set i a'))) → Keep (vec E v l).fp w w' → Φ undef w') :
    Sp P all n ρ ⟨d', .store T x y, ty, pos, af, g⟩ w Φ := by
  have hcs : u.cells = #[u] := by cases u <;> first | rfl | simp [Value.oneCell'] at h1
  exact s_storev S j hj hg hat hx (vs := [u]) (by rw [hy, hcs]) hs (by simpa using h1) ha hf he h
theorem s_storevi {z : Int} (S : Own X w0 w L) (j : Nat) (hj : L[j]? = some (vec E v l)) (hg : gOk all n ρ g = true) (hat : At E v i ⟨b', o, none⟩)
    (hx : ev n ρ x = .pointer (some ⟨b', o + f, none⟩)) (hy : ev n ρ y = .int .i64 z) (hs : ∀ w, (sizeOf T).run P w = .ok 1 w) (ha : l[i]? = some a) (hf : f + 1 ≤ E.sz)
    (he : splice (E.enc a) f [.int .i64 z] = E.enc a') (h : ∀ w', Own X w0 w' (L.set j (vec E v (l.set i a'))) → Keep (vec E v l).fp w w' → Φ undef w') :
    Sp P all n ρ ⟨d', .store T x y, ty, pos, af, g⟩ w Φ := s_storev1 S j hj hg hat hx hy rfl hs ha hf he h
theorem s_storevb {t : Bool} (S : Own X w0 w L) (j : Nat) (hj : L[j]? = some (vec E v l)) (hg : gOk all n ρ g = true) (hat : At E v i ⟨b', o, none⟩)
    (hx : ev n ρ x = .pointer (some ⟨b', o + f, none⟩)) (hy : ev n ρ y = .bool t) (hs : ∀ w, (sizeOf T).run P w = .ok 1 w) (ha : l[i]? = some a) (hf : f + 1 ≤ E.sz)
    (he : splice (E.enc a) f [.bool t] = E.enc a') (h : ∀ w', Own X w0 w' (L.set j (vec E v (l.set i a'))) → Keep (vec E v l).fp w w' → Φ undef w') :
    Sp P all n ρ ⟨d', .store T x y, ty, pos, af, g⟩ w Φ := s_storev1 S j hj hg hat hx hy rfl hs ha hf he h
theorem s_storeva {c : List Value} (S : Own X w0 w L) (j : Nat) (hj : L[j]? = some (vec E v l)) (hg : gOk all n ρ g = true) (hat : At E v i ⟨b', o, none⟩)
    (hx : ev n ρ x = .pointer (some ⟨b', o, none⟩)) (hy : ev n ρ y = .agg c.toArray) (hs : ∀ w, (sizeOf T).run P w = .ok E.sz w) (ha : l[i]? = some a) (he : c = E.enc a')
    (h : ∀ w', Own X w0 w' (L.set j (vec E v (l.set i a'))) → Keep (vec E v l).fp w w' → Φ undef w') :
    Sp P all n ρ ⟨d', .store T x y, ty, pos, af, g⟩ w Φ := by
  subst he
  exact s_storev (f := 0) S j hj hg hat hx (vs := E.enc a') (by rw [hy]; rfl) (by rw [E.len]; exact hs) (E.one a') ha (by rw [E.len]; omega) (splice_all (by rw [E.len, E.len])) h
end
end Go.Vk

/- The proof engine, part 16: copying, views, conversions. Generic over the program. -/
namespace Go.Vk
open Go

section
variable {P : Program} {ev : Operand → Value} {w : World} {ty : TypeId} {x y : Operand} {S T : TypeId} {a : Int}
theorem x_convert {s k : IntKind} {u : TypeDesc} (hx : ev x = .int s a) (hs : ∀ w, (underlying S).run P w = .ok u w) (hd : ∀ w, (underlying T).run P w = .ok (.int k) w) (hr : k.wrap a = a) : X P ev (.convert S T x) ty w (.int k a) w :=
  ⟨nofun, fun _ _ _ _ => by
    simp only [execOp, hx, convert, Sem.run_bind, hs, hd, Result.andThen_ok]
    cases u <;> simp [Conv.intToInt, hr, go_sem]⟩
theorem x_min {k : IntKind} {c : Int} {ts : Array TypeId} (hx : ev x = .int k a) (hy : ev y = .int k c) : X P ev (.call ⟨.builtin .min, #[x, y], ts⟩) ty w (.int k (min a c)) w :=
  ⟨nofun, fun _ _ _ _ => by
    have h : min a c = if c < a then c else a := by simp only [Int.min_def]; split <;> split <;> omega
    simp only [execOp, resolve, Sem.run_bind, Sem.run_pure, Result.andThen_ok, invoke, builtin, List.map_toArray, List.map_cons, List.map_nil, hx, hy, Builtin.min_, List.foldlM_cons, List.foldlM_nil]
    simp [Builtin.min2, h, go_sem]⟩
theorem u64_in {a : Int} (h : 0 ≤ a ∧ a < 18446744073709551616) : IntKind.u64.wrap a = a := IntWalk.u64_in a ⟨h.1, by omega⟩
theorem i64_in {a : Int} (h : -9223372036854775808 ≤ a ∧ a ≤ 9223372036854775807) : IntKind.i64.wrap a = a := IntWalk.i64_in _ h
end

theorem tail_self {α : Type} {E : Elt α} {v : Value} {l : List α} {w : World} (h : (vec E v l).ok w) : Tail E v v 0 := by
  rcases h with ⟨hv, _⟩ | ⟨b, cap, c, hv, h1, _⟩
  · exact .inl ⟨hv, hv, rfl⟩
  · exact .inr ⟨b, l.length, cap, hv, Nat.zero_le _, h1, by rw [hv]; simp⟩

section
variable {P : Program} {b : Frame} {cs : List Frame} {fin : Machine → Prop} {n : Nat} {all : Array Oper} {rest : List Oper} {k : List Item} {ρ : Env} {ds : List Deferred} {w : World} {X : Nat → Prop} {w0 : World} {L : List Rsc}
  {d : Nat} {d' : Option Nat} {ty : TypeId} {pos : String} {af : Array Edge} {g : Option (Nat × Bool)} {T T' : TypeId} {x y : Operand} {α : Type} {E : Elt α} {v vd vs : Value} {l xs : List α} {p : Nat}

theorem flatMap_drop (E : Elt α) : ∀ (l : List α) (q : Nat), (l.drop q).flatMap E.enc = (l.flatMap E.enc).drop (q * E.sz) := by
  intro l
  induction l with
  | nil => intro q; simp
  | cons a l ih =>
    intro q
    cases q with
    | zero => simp
    | succ q =>
      have h1 : (q + 1) * E.sz = E.sz + q * E.sz := by rw [Nat.add_mul]; omega
      have hd : (E.enc a).drop (E.sz + q * E.sz) = [] := List.drop_of_length_le (by rw [E.len]; omega)
      have h2 : E.sz + q * E.sz - E.sz = q * E.sz := by omega
      rw [List.drop_succ_cons, ih, h1, List.flatMap_cons, List.drop_append, hd, E.len, List.nil_append, h2]

/-- 'copy' into a slice of one's own whose elements have one cell each. -/
theorem x_copy {ev : Operand → Value} (S : Own X w0 w L) (j : Nat) (hj : L[j]? = some (vec E v l)) (ht : Tail E v vd p) (hx : ev x = vd) (hy : ev y = vs) (hr : Rd E w vs xs)
    (hu : P.underlying T = some (.slice E.T)) (hs : (P.info? E.T).map (·.size) = some 1) (hsz : E.sz = 1) :
    ∃ w', Vk.X P ev (.call ⟨.builtin .copy, #[x, y], #[T, T']⟩) ty w (.int .i64 (min xs.length (l.length - p) : Nat)) w' ∧
      Own X w0 w' (L.set j (vec E v (l.take p ++ (xs.take (min xs.length (l.length - p)) ++ l.drop (p + min xs.length (l.length - p)))))) ∧ Keep (vec E v l).fp w w' := by
  have hrun : ∀ (m : Nat) (w' : World), (Builtin.copy_ #[T, T'] ty #[vd, vs]).run P w = .ok (goInt m) w' → Vk.X P ev (.call ⟨.builtin .copy, #[x, y], #[T, T']⟩) ty w (.int .i64 m) w' := by
    intro m w' h
    refine ⟨nofun, fun _ _ _ _ => ?_⟩
    simp only [execOp, resolve, Sem.run_bind, Sem.run_pure, Result.andThen_ok, invoke, builtin, List.map_toArray, List.map_cons, List.map_nil, hx, hy, h]
    rfl
  obtain ⟨i, hi, hi1⟩ : ∃ i, P.info? E.T = some i ∧ i.size = 1 := by
    cases hq : P.info? E.T with
    | none => simp [hq] at hs
    | some i => exact ⟨i, rfl, by simpa [hq] using hs⟩
  obtain ⟨a, scap, rfl, hsc, hrow⟩ := hr
  have hflat : ∀ (m : Nat), m ≤ xs.length → ((xs.take m).flatMap E.enc).length = m := by
    intro m hm; rw [flatMap_enc_length, List.length_take, hsz]; omega
  have hzero : min xs.length (l.length - p) = 0 → (∃ b c, vd = .slice b (l.length - p) c) →
      (Builtin.copy_ #[T, T'] ty #[vd, .slice a xs.length scap]).run P w = .ok (goInt 0) w := by
    rintro h0 ⟨bb, cc, rfl⟩
    have h0' : Nat.min xs.length (l.length - p) = 0 := h0
    cases a with
    | none => cases bb <;> simp [Builtin.copy_, run_underlying hu, Builtin.lenOf, Builtin.firstCells, sizeOf, typeInfo, hi, storeCells, h0', go_sem]
    | some a => cases bb <;> simp [Builtin.copy_, run_underlying hu, Builtin.lenOf, Builtin.firstCells, sizeOf, typeInfo, hi, storeCells, h0', loadCells, go_sem]
  have hsame : min xs.length (l.length - p) = 0 → l.take p ++ (xs.take (min xs.length (l.length - p)) ++ l.drop (p + min xs.length (l.length - p))) = l := by
    intro h0; rw [h0]; simp
  rcases ht with ⟨hv, rfl, rfl⟩ | ⟨b1, len, cap1, hv, h1, h2, rfl⟩
  · rcases S.at j hj with ⟨_, rfl⟩ | ⟨b', cap, c, hv2, _⟩
    · have h0 : min xs.length (([] : List α).length - 0) = 0 := by simp
      refine ⟨w, hrun _ _ (by rw [h0]; exact hzero h0 ⟨none, 0, rfl⟩), ?_, Keep.refl _ _⟩
      rw [hsame h0]
      exact S.as j hj (S.at j hj) fun _ h => h
    · rw [hv] at hv2; cases hv2
  · rcases S.at j hj with ⟨hv2, _⟩ | ⟨b', cap, c, hv2, g1, g2, g3, g4, hb⟩
    · rw [hv] at hv2; cases hv2
    · have hv0 := hv2
      rw [hv] at hv2
      simp only [Value.slice.injEq, Option.some.injEq, Addr.mk.injEq, and_true] at hv2
      obtain ⟨rfl, rfl, rfl⟩ := hv2
      by_cases h0 : min xs.length (l.length - p) = 0
      · refine ⟨w, hrun _ _ (by rw [h0]; exact hzero h0 ⟨_, _, rfl⟩), ?_, Keep.refl _ _⟩
        rw [hsame h0]
        exact S.as j hj (S.at j hj) fun _ h => h
      · obtain ⟨q, hq⟩ : ∃ q, q = min xs.length (l.length - p) := ⟨_, rfl⟩
        rw [← hq] at h0 ⊢
        have hql : q ≤ xs.length := by omega
        have hqp : p + q ≤ l.length := by omega
        have hne : cap1 ≠ p := by omega
        have hc1 : c.length = cap1 := by rw [g3, hsz, Nat.mul_one]
        have h4 : c.take l.length = l.flatMap E.enc := by rw [← g4, hsz, Nat.mul_one]
        obtain ⟨x0, hx0⟩ : ∃ x0, xs[0]? = some x0 := ⟨_, List.getElem?_eq_getElem (by omega)⟩
        obtain ⟨sb, so, rfl, _⟩ := hrow 0 x0 hx0
        have hcs := run_copy_row (P := P) w T T' ty E.T b1 p (l.length - p) (cap1 - p) ⟨sb, so, none⟩ xs.length scap c.toArray E.T ((xs.take q).flatMap E.enc) hu hs hb (by rw [hflat q hql, hq])
          (fun jj u hjj => by
            have hlt : jj < q := by have := (List.getElem?_eq_some_iff.1 hjj).1; rw [hflat q hql] at this; exact this
            obtain ⟨xj, hxj⟩ : ∃ xj, xs[jj]? = some xj := ⟨_, List.getElem?_eq_getElem (by omega)⟩
            obtain ⟨b2, o2, hb2, hr2⟩ := hrow jj xj hxj
            simp only [Option.some.injEq, Addr.mk.injEq, and_true] at hb2
            obtain ⟨rfl, rfl⟩ := hb2
            have hlen1 : (E.enc xj).length = 1 := by rw [E.len, hsz]
            obtain ⟨z, hz⟩ := List.length_eq_one_iff.1 hlen1
            have h5 : (xs.take q)[jj]? = some xj := by rw [List.getElem?_take, if_pos hlt]; exact hxj
            have h6 := flatMap_enc_get E (xs.take q) jj xj 0 z h5 (by rw [hz]; rfl)
            rw [hsz, Nat.mul_one, Nat.add_zero, hjj] at h6
            have h6' : z = u := Option.some.inj h6.symm
            subst h6'
            have h7 := hr2 0 z (by rw [hz]; rfl)
            rw [hsz, Nat.mul_one, Nat.add_zero] at h7
            rw [addr_add]; exact h7)
          (by rw [hflat q hql, List.size_toArray]; omega) (fun u hu' => by obtain ⟨zz, _, hzz⟩ := List.mem_flatMap.1 hu'; exact E.one zz u hzz)
        rw [hflat q hql] at hcs
        have hlen : (l.take p ++ (xs.take q ++ l.drop (p + q))).length = l.length := by simp; omega
        refine ⟨w.setRow b1 (c.take p ++ (xs.take q).flatMap E.enc ++ c.drop (p + q)).toArray, hrun _ _ ?_, ?_, (Keep.setRow w _).mono fun bb _ e => ⟨l.length, cap1, by subst e; exact hv0⟩⟩
        · rw [if_neg hne, hsz, Nat.mul_one]
          exact hcs
        · refine S.turn j hj ((Keep.setRow w _).mono fun bb _ e => ⟨l.length, cap1, by subst e; exact hv0⟩) (fun _ _ h => h) ?_ (fun _ h => .inl h)
          refine .inr ⟨b1, cap1, _, by rw [hlen]; exact hv0, by rw [hlen]; exact g1, g2, ?_, ?_, setRow_heap w b1 _ _ E.T _ hb⟩
          · simp [hsz, hflat q hql]; omega
          · rw [hlen, hsz, Nat.mul_one, List.flatMap_append, List.flatMap_append, flatMap_take E l p, flatMap_drop E l (p + q), hsz, Nat.mul_one, Nat.mul_one, ← h4, List.take_take, Nat.min_eq_left h1]
            have hA : (c.take p ++ (xs.take q).flatMap E.enc).length = p + q := by rw [List.length_append, hflat q hql, List.length_take]; omega
            rw [List.take_append, List.take_of_length_le (by rw [hA]; exact hqp), hA, List.append_assoc, List.drop_take]

theorem l_copy (S : Own X w0 w L) (j : Nat) (hj : L[j]? = some (vec E v l)) (hg : gOk all n ρ g = true) (ht : Tail E v vd p) (hx : ev n ρ x = vd) (hy : ev n ρ y = vs) (hr : Rd E w vs xs)
    (hu : P.underlying T = some (.slice E.T)) (hs : (P.info? E.T).map (·.size) = some 1) (hsz : E.sz = 1)
    (h : ∀ w', Own X w0 w' (L.set j (vec E v (l.take p ++ (xs.take (min xs.length (l.length - p)) ++ l.drop (p + min xs.length (l.length - p)))))) → Keep (vec E v l).fp w w' →
      RunL P b cs fin n all rest k (upd ρ d (.int .i64 (min xs.length (l.length - p) : Nat))) ds w') :
    RunL P b cs fin n all (⟨some d, .call ⟨.builtin .copy, #[x, y], #[T, T']⟩, ty, pos, af, g⟩ :: rest) k ρ ds w := by
  obtain ⟨w', h1, h2, h3⟩ := x_copy (T' := T') (ty := ty) S j hj ht hx hy hr hu hs hsz
  exact l_x hg h1 (h w' h2 h3)
theorem s_copy {Φ : Value → World → Prop} (S : Own X w0 w L) (j : Nat) (hj : L[j]? = some (vec E v l)) (hg : gOk all n ρ g = true) (ht : Tail E v vd p) (hx : ev n ρ x = vd) (hy : ev n ρ y = vs) (hr : Rd E w vs xs)
    (hu : P.underlying T = some (.slice E.T)) (hs : (P.info? E.T).map (·.size) = some 1) (hsz : E.sz = 1)
    (h : ∀ w', Own X w0 w' (L.set j (vec E v (l.take p ++ (xs.take (min xs.length (l.length - p)) ++ l.drop (p + min xs.length (l.length - p)))))) → Keep (vec E v l).fp w w' →
      Φ (.int .i64 (min xs.length (l.length - p) : Nat)) w') :
    Sp P all n ρ ⟨d', .call ⟨.builtin .copy, #[x, y], #[T, T']⟩, ty, pos, af, g⟩ w Φ := by
  obtain ⟨w', h1, h2, h3⟩ := x_copy (T' := T') (ty := ty) S j hj ht hx hy hr hu hs hsz
  exact s_x hg h1 (h w' h2 h3)

/-- The end of a slice of one's own, the value alone. -/
theorem x_tailv {ev : Operand → Value} {z : Operand} {q : Int} (hok : (vec E v l).ok w) (hx : ev x = v) (hz : ev z = .int .i64 q) (hu : ∀ w, (underlying T).run P w = .ok (.slice E.T) w) (hs : ∀ w, (sizeOf E.T).run P w = .ok E.sz w) (hq : 0 ≤ q ∧ q ≤ l.length) :
    ∃ v', Tail E v v' q.toNat ∧ ∀ w1, Vk.X P ev (.slice T x (some z) none none) ty w1 v' w1 := by
  rcases hok with ⟨hv, rfl⟩ | ⟨b', cap, c, hv, h1, h2, h3, h4, hb⟩
  · have hx2 := hx.trans hv
    have hq0 : q = 0 := by simp at hq; omega
    subst hq0
    exact ⟨_, .inl ⟨hv, by simp, rfl⟩, fun w1 => x_cut (w := w1) hx2 hu hs (p := 0) (q := 0) (by simp [hz]) rfl (by simp) (Nat.le_refl _)⟩
  · have hx2 := hx.trans hv
    refine ⟨_, .inr ⟨b', l.length, cap, hv, by omega, h1, ?_⟩, fun w1 => x_cut (w := w1) hx2 hu hs (p := q) (q := l.length) (by simp [hz]) rfl (by omega) h1⟩
    split
    · rename_i e; simp [e]
    · simp [addr_add]
/-- The head of a slice, to be read. -/
theorem x_headv {ev : Operand → Value} {z : Operand} {q : Int} (hr : Rd E w v l) (hx : ev x = v) (hz : ev z = .int .i64 q) (hu : ∀ w, (underlying T).run P w = .ok (.slice E.T) w) (hs : ∀ w, (sizeOf E.T).run P w = .ok E.sz w) (hq : 0 ≤ q ∧ q ≤ l.length) :
    ∃ v', Rd E w v' (l.take q.toNat) ∧ ∀ w1, Vk.X P ev (.slice T x none (some z) none) ty w1 v' w1 := by
  obtain ⟨a, cap, rfl, hc, hrow⟩ := hr
  have hlen : (l.take q.toNat).length = q.toNat := by rw [List.length_take]; omega
  refine ⟨_, ?_, fun w1 => x_cut (w := w1) hx hu hs (p := 0) (q := q) rfl (by simp [hz]) (by omega) hc⟩
  refine ⟨_, _, by rw [hlen, Int.toNat_zero, Nat.sub_zero], by rw [hlen]; simp; omega, fun i e hi => ?_⟩
  rw [List.getElem?_take] at hi
  split at hi
  · obtain ⟨b', o', rfl, hr⟩ := hrow i e hi
    refine ⟨b', o', ?_, hr⟩
    split
    · rfl
    · simp [addr_add]
  · cases hi
end

section
variable {P : Program} {b : Frame} {cs : List Frame} {fin : Machine → Prop} {n : Nat} {k : List Item} {ρ : Env} {ds : List Deferred} {w : World} {ops : Array Oper} {m : Nat} {Y : Nat → Prop} {listed listed' : Array Bool}
  {d : Nat} {ty : TypeId} {pos : String} {af : Array Edge} {g : Option (Nat × Bool)} {v : Value} {T : TypeId} {x z : Operand} {α : Type} {E : Elt α} {l : List α} {q : Int}
theorem e_tail (i : Nat) (hok : drawOk ops m = true) (ho : ops[i]? = some ⟨some d, .slice T x (some z) none none, ty, pos, af, g⟩) (him : Nat.blt i m = true) (hr : rdy ops listed i = true)
    (hl : listed.setIfInBounds i true = listed') (hg : gOk ops n ρ g = true) (hv : (vec E v l).ok w) (hx : ev n ρ x = v) (hz : ev n ρ z = .int .i64 q)
    (hu : ∀ w, (underlying T).run P w = .ok (.slice E.T) w) (hs : ∀ w, (sizeOf E.T).run P w = .ok E.sz w) (hq : 0 ≤ q ∧ q ≤ l.length)
    (h : ∀ v', Tail E v v' q.toNat → RE P b cs fin n ops m (Keep Y) k ds listed' (upd ρ d v') w) : RE P b cs fin n ops m (Keep Y) k ds listed ρ w := by
  obtain ⟨v', h1, h2⟩ := x_tailv (P := P) (ty := ty) hv hx hz hu hs hq
  exact e_exact i _ hok ho him hr hl (ex_x hg fun w1 _ => h2 w1) (h v' h1)
theorem e_head (i : Nat) (hok : drawOk ops m = true) (ho : ops[i]? = some ⟨some d, .slice T x none (some z) none, ty, pos, af, g⟩) (him : Nat.blt i m = true) (hr : rdy ops listed i = true)
    (hl : listed.setIfInBounds i true = listed') (hg : gOk ops n ρ g = true) (hv : Rd E w v l) (hx : ev n ρ x = v) (hz : ev n ρ z = .int .i64 q)
    (hu : ∀ w, (underlying T).run P w = .ok (.slice E.T) w) (hs : ∀ w, (sizeOf E.T).run P w = .ok E.sz w) (hq : 0 ≤ q ∧ q ≤ l.length)
    (h : ∀ v', Rd E w v' (l.take q.toNat) → RE P b cs fin n ops m (Keep Y) k ds listed' (upd ρ d v') w) : RE P b cs fin n ops m (Keep Y) k ds listed ρ w := by
  obtain ⟨v', h1, h2⟩ := x_headv (P := P) (ty := ty) hv hx hz hu hs hq
  exact e_exact i _ hok ho him hr hl (ex_x hg fun w1 _ => h2 w1) (h v' h1)
end

/-- A list of c numbers whose first i are z already. -/
def rp (z : Int) (c i : Nat) : List Int := List.replicate i z ++ List.replicate (c - i) 0
theorem rp_len {z : Int} {c i : Nat} (h : i ≤ c) : (rp z c i).length = c := by simp [rp]; omega
theorem rp_full {z : Int} {c : Nat} : rp z c c = List.replicate c z := by simp [rp]
theorem rp_take {z : Int} {c i : Nat} : (rp z c i).take i = List.replicate i z := by
  rw [rp, List.take_left' (by simp)]
theorem rp_start {z : Int} {c : Nat} : (List.replicate c 0).take 0 ++ ([z].take (min [z].length ((List.replicate c (0:Int)).length - 0)) ++ (List.replicate c 0).drop (0 + min [z].length ((List.replicate c (0:Int)).length - 0))) = rp z c (min 1 c) := by
  cases c with
  | zero => simp [rp]
  | succ c =>
    have e : min 1 (c + 1) = 1 := by omega
    simp [rp, e]
theorem rp_copy {z : Int} {c i : Nat} (h : i ≤ c) : (rp z c i).take i ++ (((rp z c i).take i).take (min ((rp z c i).take i).length ((rp z c i).length - i)) ++ (rp z c i).drop (i + min ((rp z c i).take i).length ((rp z c i).length - i))) =
    rp z c (i + min ((rp z c i).take i).length ((rp z c i).length - i)) := by
  rw [rp_take, rp_len h, List.length_replicate, List.take_replicate]
  have hq : min i (c - i) ≤ c - i := by omega
  obtain ⟨q, hq'⟩ : ∃ q, q = min i (c - i) := ⟨_, rfl⟩
  rw [← hq'] at hq ⊢
  have e1 : min q i = q := by omega
  rw [e1, rp, rp, ← List.append_assoc, List.replicate_append_replicate]
  congr 1
  rw [List.drop_append, List.drop_of_length_le (by simp), List.nil_append, List.length_replicate, List.drop_replicate]
  congr 1
  omega

/-- The whole of an array as a slice. -/
theorem x_sliceall {P : Program} {ev : Operand → Value} {w : World} {T ty e : TypeId} {x : Operand} {b o n s : Nat} (hx : ev x = .pointer (some ⟨b, o, none⟩)) (hu : ∀ w, (underlying T).run P w = .ok (.array n e) w) (hs : ∀ w, (sizeOf e).run P w = .ok s w) :
    X P ev (.slice T x none none none) ty w (.slice (some ⟨b, o, none⟩) n n) w := by
  refine ⟨nofun, fun _ _ _ _ => ?_⟩
  have ha : (⟨b, o, none⟩ : Addr).add 0 = ⟨b, o, none⟩ := rfl
  simp only [execOp, Instr.sliceAt, Option.map_none, hx, Sem.run_bind, hu, Result.andThen_ok, Instr.sureAddr, Sem.run_pure, Instr.sliceBounds, hs, Nat.zero_mul, ha, Nat.sub_zero]
  split <;> rfl

theorem foldl_max_pos : ∀ (l : List Int) (a : Int), 0 < l.foldl max a ↔ 0 < a ∨ ∃ z ∈ l, 0 < z := by
  intro l
  induction l with
  | nil => intro a; simp
  | cons b l ih =>
    intro a
    rw [List.foldl_cons, ih]
    constructor
    · rintro (h | ⟨z, hz, h⟩)
      · by_cases ha : 0 < a
        · exact .inl ha
        · exact .inr ⟨b, List.mem_cons_self .., by omega⟩
      · exact .inr ⟨z, List.mem_cons_of_mem _ hz, h⟩
    · rintro (h | ⟨z, hz, h⟩)
      · exact .inl (by omega)
      · rcases List.mem_cons.1 hz with rfl | hz
        · exact .inl (by omega)
        · exact .inr ⟨z, hz, h⟩
theorem maxOf_pos {zs : List Int} (h : zs ≠ []) : 0 < Lib.maxOf zs ↔ ∃ z ∈ zs, 0 < z := by
  unfold Lib.maxOf
  rw [foldl_max_pos]
  cases zs with
  | nil => exact absurd rfl h
  | cons a l =>
    constructor
    · rintro (h | h)
      · exact ⟨a, List.mem_cons_self .., by simpa using h⟩
      · exact h
    · intro h; exact .inr h
end Go.Vk

/- The proof engine, part 17: regions that draw their order and write what they have made. Generic over the program. -/
namespace Go.Vk
open Go

/-- The blocks made since. -/
def yng (w : World) : Nat → Prop := fun b => w.heap.size ≤ b

section
variable {X : Nat → Prop} {w0 w w1 w2 : World} {L : List Rsc}
theorem Own.yng (S : Own X w0 w L) (h : Keep (Vk.yng w) w w1) : Own X w0 w1 L := by
  have h' : Le w w1 := ⟨h.os, h.tape, h.output, h.size, fun b hb _ => h.block b hb (Nat.not_le_of_gt hb), h.drawn⟩
  exact S.step h'
theorem yng_blk {b : Nat} (h : Keep (Vk.yng w) w w1) (hb : w1.heap.size ≤ b) {u u' : World} (hk : Keep (· = b) u u') : Keep (Vk.yng w) u u' :=
  hk.mono fun c _ e => by subst e; exact Nat.le_trans h.size hb
end

section
variable {P : Program} {n : Nat} {all : Array Oper} {ρ : Env} {w : World} {d : Nat} {ty : TypeId} {pos : String} {af : Array Edge} {g : Option (Nat × Bool)} {T : TypeId} {x : Operand} {Φ : Value → World → Prop}
theorem s_allocY {X : Nat → Prop} {w0 : World} {L : List Rsc} {c : List Value} {z : Value} (S : Own X w0 w L) (hg : gOk all n ρ g = true) (hz : ∀ w, (zeroValue T).run P w = .ok z w) (hx : z.cells = c.toArray)
    (h : ∀ b' w', Own X w0 w' (L ++ [blk b' c T]) → Le w w' → w.heap.size ≤ b' → Φ (.pointer (some ⟨b', 0, none⟩)) w') :
    Sp P all n ρ ⟨some d, .alloc T, ty, pos, af, g⟩ w Φ := by
  refine s_x hg (v := .pointer (some ⟨w.heap.size, 0, none⟩)) (w' := w.alloc (.cells c.toArray T (0, 0))) ⟨nofun, fun _ _ _ _ => ?_⟩ (h _ _ (S.alloc c T) (Le.alloc_cells _ _ _) (Nat.le_refl _))
  simp only [execOp, Instr.alloc, Sem.run_bind, hz, run_newVar, Result.andThen_ok, Sem.run_pure, hx]
end
end Go.Vk

/- The proof engine, part 18: what is no longer needed is forgotten. Generic over the program. -/
namespace Go.Vk
open Go
section
variable {P : Program} {b : Frame} {cs : List Frame} {fin : Machine → Prop} {n : Nat} {k : List Item} {ρ : Env} {ds : List Deferred} {w : World}
/-- Of the slots these alone are known from here on. -/
theorem r_forget (sl : List (Nat × Value)) (ha : Agree ρ sl) (h : ∀ ρ, Run P b cs fin n k (upds ρ sl) ds w) : Run P b cs fin n k ρ ds w := by
  have := h ρ
  rwa [upds_agree ha] at this
end
end Go.Vk

/- The proof engine, part 21: what was met late. Generic over the program. -/
namespace Go.Vk
open Go
section
variable {P : Program} {b : Frame} {cs : List Frame} {fin : Machine → Prop} {n : Nat} {k : List Item} {ρ : Env} {ds : List Deferred} {w : World} {all : Array Oper} {rest : List Oper}
  {d : Nat} {ty : TypeId} {pos : String} {af : Array Edge} {g : Option (Nat × Bool)} {v : Value} {T : TypeId} {x z : Operand} {α : Type} {E : Elt α} {l : List α} {q : Int}
/-- The head of a slice, to be read. -/
theorem l_head (hr : Rd E w v l) (hg : gOk all n ρ g = true) (hx : ev n ρ x = v) (hz : ev n ρ z = .int .i64 q)
    (hu : ∀ w, (underlying T).run P w = .ok (.slice E.T) w) (hs : ∀ w, (sizeOf E.T).run P w = .ok E.sz w) (hq : 0 ≤ q ∧ q ≤ l.length)
    (h : ∀ v', Rd E w v' (l.take q.toNat) → RunL P b cs fin n all rest k (upd ρ d v') ds w) :
    RunL P b cs fin n all (⟨some d, .slice T x none (some z) none, ty, pos, af, g⟩ :: rest) k ρ ds w := by
  obtain ⟨v', h1, h2⟩ := x_headv (P := P) (ty := ty) hr hx hz hu hs hq
  exact l_x hg (h2 w) (h v' h1)
end
end Go.Vk

/- The proof engine, part 22: conversions that wrap. Generic over the program. -/
namespace Go.Vk
open Go
section
variable {P : Program} {ev : Operand → Value} {w : World} {ty : TypeId} {x y : Operand} {S T T' : TypeId} {a c : Int}
/-- A conversion between kinds of integers, wrapped. -/
theorem x_convertw {s k : IntKind} {u : TypeDesc} (hx : ev x = .int s a) (hs : ∀ w, (underlying S).run P w = .ok u w) (hd : ∀ w, (underlying T).run P w = .ok (.int k) w) : X P ev (.convert S T x) ty w (.int k (k.wrap a)) w :=
  ⟨nofun, fun _ _ _ _ => by
    simp only [execOp, hx, convert, Sem.run_bind, hs, hd, Result.andThen_ok]
    cases u <;> simp [Conv.intToInt, go_sem]⟩
theorem x_remk {k : IntKind} (hx : ev x = .int k a) (hy : ev y = .int k c) (hb : 0 ≤ a ∧ 0 < c) : X P ev (.binOp .rem T x y T') ty w (.int k (a % c)) w := by
  refine ⟨nofun, fun _ _ _ _ => ?_⟩
  have h0 : c ≠ 0 := by omega
  have e : a.tmod c = a % c := Int.tmod_eq_emod_of_nonneg hb.1
  simp [execOp, hx, hy, binOp, eqGuard, Op.intDiv, go_sem, h0, e]
theorem u64_wrap_nonneg (a : Int) : 0 ≤ IntKind.u64.wrap a := by
  unfold IntKind.wrap
  simp only [IntKind.signed, Bool.false_and]
  exact Int.emod_nonneg _ (by decide)
end
end Go.Vk

/- The proof engine, part 23: slices of nets. Generic over the program. -/
namespace Go.Vk
open Go
/-- A net in a slice: its nodes and the header of its arcs. -/
def netE (T : TypeId) : Elt (Int × Hd) where
  T := T
  sz := 2
  enc p := [.int .i64 p.1, hv p.2]
  zero := [.int .i64 0, .slice none 0 0]
  len _ := rfl
  zlen := rfl
  one a x h := by simp at h; rcases h with h | h <;> subst h <;> rfl
  pos := by decide
theorem rd_hv {α : Type} {E : Elt α} {w : World} {v : Value} {l : List α} (h : Rd E w v l) : ∃ d, v = hv d := by
  obtain ⟨a, cap, rfl, _⟩ := h
  exact ⟨(a, l.length, cap), rfl⟩
end Go.Vk

/- The proof engine, part 24: maps. Generic over the program. -/
namespace Go.Vk
open Go

/-- What a map says of each key. -/
structure MapOk {κ α : Type} (key : κ → Value) (val : α → Value) (f : κ → Option α) (es : Array MapEntry) (clock : Nat) : Prop where
  st : MapKept.Stamped es clock
  of : ∀ x ∈ es.toList, ∃ k a, x.key = key k ∧ x.val = val a ∧ f k = some a
  all : ∀ k a, f k = some a → ∃ x ∈ es.toList, x.key = key k ∧ x.val = val a
/-- A map of one's own. -/
def mapr {κ α : Type} (key : κ → Value) (val : α → Value) (b : Nat) (f : κ → Option α) : Rsc :=
  ⟨(· = b), fun w => ∃ es clock, w.heap[b]? = some (.map es clock) ∧ MapOk key val f es clock, fun h ⟨es, clock, h1, h2⟩ => ⟨es, clock, (h b rfl).trans h1, h2⟩⟩
/-- How keys are written. -/
structure KeyOk {κ : Type} (P : Program) (kt : TypeId) (d : TypeDesc) (key : κ → Value) : Prop where
  u : P.underlying kt = some d
  is : ∀ k, MapKept.IsKey d (key k)
  inj : ∀ k k', key k = key k' → k = k'
abbrev kInt (k : Int) : Value := .int .i64 k
theorem keyInt {P : Program} {kt : TypeId} (hu : P.underlying kt = some (.int .i64)) : KeyOk P kt (.int .i64) kInt := ⟨hu, fun _ => rfl, fun k k' h => by cases h; rfl⟩

set_option linter.unusedSectionVars false
set_option linter.unusedVariables false
section
variable {κ α : Type} [DecidableEq κ] {key : κ → Value} {val : α → Value} {f : κ → Option α} {es : Array MapEntry} {clock : Nat} {k : κ} {a : α}
def mnil : κ → Option α := fun _ => none
def mset (f : κ → Option α) (k : κ) (a : α) : κ → Option α := fun k' => if k' = k then some a else f k'
def mdel (f : κ → Option α) (k : κ) : κ → Option α := fun k' => if k' = k then none else f k'
omit [DecidableEq κ] in
theorem MapOk.nil : MapOk key val (mnil : κ → Option α) #[] 0 := ⟨MapKept.stamped_empty 0, by simp, fun _ _ h => by cases h⟩
/-- What is found of a key. -/
theorem MapOk.find {P : Program} {kt : TypeId} {d : TypeDesc} (h : MapOk key val f es clock) (hK : KeyOk P kt d key) (k : κ) :
    (f k = none ∧ Instr.findNow d (key k) es.toList 0 = some none ∧ ∀ x ∈ es.toList, x.key ≠ key k) ∨
    ∃ a j e, f k = some a ∧ Instr.findNow d (key k) es.toList 0 = some (some (j, val a)) ∧ es[j]? = some e ∧ e.key = key k ∧ e.val = val a := by
  have hks : ∀ x ∈ es.toList, MapKept.IsKey d x.key := fun x hx => by
    obtain ⟨k', _, h1, _⟩ := h.of x hx; rw [h1]; exact hK.is k'
  rcases MapKept.findNow_spec (hK.is k) es.toList 0 hks with ⟨h1, h2⟩ | ⟨j, e, h1, h2, h3⟩
  · refine .inl ⟨?_, h1, h2⟩
    cases hf : f k with
    | none => rfl
    | some a =>
      obtain ⟨x, hx, e1, _⟩ := h.all k a hf
      exact absurd e1 (h2 x hx)
  · obtain ⟨k', a, e1, e2, e3⟩ := h.of e (List.mem_of_getElem? h2)
    have : k' = k := hK.inj _ _ (e1.symm.trans h3)
    subst this
    exact .inr ⟨a, j, e, e3, by rw [h1, Nat.zero_add, e2], by rw [← Array.getElem?_toList]; exact h2, h3, e2⟩
theorem MapOk.push {P : Program} {kt : TypeId} {d : TypeDesc} (h : MapOk key val f es clock) (hK : KeyOk P kt d key) (h2 : ∀ x ∈ es.toList, x.key ≠ key k) (a : α) : MapOk key val (mset f k a) (es.push { key := key k, val := val a, born := clock }) (clock + 1) := by
  refine ⟨MapKept.stamped_push h.st h2, fun x hx => ?_, fun k' a' hf => ?_⟩
  · simp only [Array.toList_push, List.mem_append, List.mem_singleton] at hx
    rcases hx with hx | rfl
    · obtain ⟨k', a', e1, e2, e3⟩ := h.of x hx
      refine ⟨k', a', e1, e2, ?_⟩
      rw [mset, if_neg (fun e => h2 x hx (by rw [e1, e]))]; exact e3
    · exact ⟨k, a, rfl, rfl, by rw [mset, if_pos rfl]⟩
  · simp only [Array.toList_push, List.mem_append, List.mem_singleton]
    unfold mset at hf
    split at hf
    · next e => cases hf; subst e; exact ⟨_, .inr rfl, rfl, rfl⟩
    · obtain ⟨x, hx, e1, e2⟩ := h.all k' a' hf
      exact ⟨x, .inl hx, e1, e2⟩
theorem MapOk.modify {P : Program} {kt : TypeId} {d : TypeDesc} (h : MapOk key val f es clock) (hK : KeyOk P kt d key) {j : Nat} {e : MapEntry} (he : es[j]? = some e) (hk : e.key = key k) (a : α) : MapOk key val (mset f k a) (es.modify j fun e => { e with key := key k, val := val a }) clock := by
  have hget : ∀ i, (es.modify j fun e => { e with key := key k, val := val a })[i]? = if j = i then es[i]?.map (fun e => { e with key := key k, val := val a }) else es[i]? := fun i => by rw [Array.getElem?_modify]
  refine ⟨MapKept.stamped_modify h.st j _ (fun _ _ => rfl) (fun e' _ h' => by rw [he] at h'; cases h'; exact hk.symm), fun x hx => ?_, fun k' a' hf => ?_⟩
  · obtain ⟨i, hi⟩ := List.mem_iff_getElem?.1 hx
    rw [Array.getElem?_toList, hget] at hi
    split at hi
    · next e1 =>
      subst e1
      rw [he] at hi
      cases hi
      exact ⟨k, a, rfl, rfl, by rw [mset, if_pos rfl]⟩
    · next e1 =>
      obtain ⟨k', a', q1, q2, q3⟩ := h.of x (List.mem_of_getElem? (by rw [Array.getElem?_toList]; exact hi))
      refine ⟨k', a', q1, q2, ?_⟩
      rw [mset, if_neg (fun e2 => e1 ?_)]; exact q3
      -- keys are distinct
      have hn := List.pairwise_iff_getElem.1 (MapKept.stamped_iff es clock |>.1 h.st).2.2
      obtain ⟨l1, g1⟩ := Array.getElem?_eq_some_iff.1 he
      obtain ⟨l2, g2⟩ := Array.getElem?_eq_some_iff.1 hi
      rcases Nat.lt_trichotomy j i with hlt | hlt | hlt
      · exact absurd (show es.toList[j].key = es.toList[i].key by rw [Array.getElem_toList, Array.getElem_toList, g1, g2, hk, q1, e2]) (hn j i (by simpa using l1) (by simpa using l2) hlt)
      · exact hlt
      · exact absurd (show es.toList[i].key = es.toList[j].key by rw [Array.getElem_toList, Array.getElem_toList, g1, g2, hk, q1, e2]) (hn i j (by simpa using l2) (by simpa using l1) hlt)
  · unfold mset at hf
    split at hf
    · next e1 =>
      cases hf; subst e1
      exact ⟨_, List.mem_iff_getElem?.2 ⟨j, by rw [Array.getElem?_toList, hget, if_pos rfl, he]; rfl⟩, rfl, rfl⟩
    · next e1 =>
      obtain ⟨x, hx, q1, q2⟩ := h.all k' a' hf
      obtain ⟨i, hi⟩ := List.mem_iff_getElem?.1 hx
      refine ⟨x, List.mem_iff_getElem?.2 ⟨i, ?_⟩, q1, q2⟩
      rw [Array.getElem?_toList] at hi ⊢
      rw [hget, if_neg (fun e2 => e1 ?_)]; exact hi
      subst e2
      rw [he] at hi; cases hi
      exact hK.inj _ _ (q1.symm.trans hk)
theorem MapOk.erase {P : Program} {kt : TypeId} {d : TypeDesc} (h : MapOk key val f es clock) (hK : KeyOk P kt d key) {j : Nat} {e : MapEntry} (he : es[j]? = some e) (hk : e.key = key k) : MapOk key val (mdel f k) (es.eraseIdxIfInBounds j) clock := by
  have hj : j < es.size := (Array.getElem?_eq_some_iff.1 he).1
  have hl : (es.eraseIdxIfInBounds j).toList = es.toList.eraseIdx j := by
    unfold Array.eraseIdxIfInBounds; rw [dif_pos hj]; simp
  have hn := List.pairwise_iff_getElem.1 (MapKept.stamped_iff es clock |>.1 h.st).2.2
  refine ⟨MapKept.stamped_erase h.st j, fun x hx => ?_, fun k' a' hf => ?_⟩
  · rw [hl] at hx
    obtain ⟨k', a', q1, q2, q3⟩ := h.of x (List.mem_of_mem_eraseIdx hx)
    refine ⟨k', a', q1, q2, ?_⟩
    rw [mdel, if_neg (fun e2 => ?_)]; exact q3
    obtain ⟨i, hne, hi⟩ := List.mem_eraseIdx_iff_getElem?.1 hx
    rw [Array.getElem?_toList] at hi
    obtain ⟨l1, g1⟩ := Array.getElem?_eq_some_iff.1 he
    obtain ⟨l2, g2⟩ := Array.getElem?_eq_some_iff.1 hi
    rcases Nat.lt_trichotomy j i with hlt | hlt | hlt
    · exact absurd (show es.toList[j].key = es.toList[i].key by rw [Array.getElem_toList, Array.getElem_toList, g1, g2, hk, q1, e2]) (hn j i (by simpa using l1) (by simpa using l2) hlt)
    · exact hne hlt.symm
    · exact absurd (show es.toList[i].key = es.toList[j].key by rw [Array.getElem_toList, Array.getElem_toList, g1, g2, hk, q1, e2]) (hn i j (by simpa using l2) (by simpa using l1) hlt)
  · unfold mdel at hf
    split at hf
    · cases hf
    · next e1 =>
      obtain ⟨x, hx, q1, q2⟩ := h.all k' a' hf
      refine ⟨x, ?_, q1, q2⟩
      rw [hl]
      obtain ⟨i, hi⟩ := List.mem_iff_getElem?.1 hx
      refine List.mem_eraseIdx_iff_getElem?.2 ⟨i, fun e2 => e1 ?_, hi⟩
      subst e2
      rw [Array.getElem?_toList, he] at hi; cases hi
      exact hK.inj _ _ (q1.symm.trans hk)
omit [DecidableEq κ] in
theorem MapOk.same (h : MapOk key val f es clock) {g : κ → Option α} (e : ∀ k, f k = g k) : MapOk key val g es clock :=
  ⟨h.st, fun x hx => let ⟨k, a, h1, h2, h3⟩ := h.of x hx; ⟨k, a, h1, h2, by rw [← e]; exact h3⟩, fun k a hf => h.all k a (by rw [e]; exact hf)⟩

variable {P : Program} {X : Nat → Prop} {w0 w w' : World} {L : List Rsc} {b : Nat}
theorem MapOk.lt (h : (mapr key val b f).ok w) : b < w.heap.size := let ⟨_, _, h1, _⟩ := h; (Array.getElem?_eq_some_iff.1 h1).1
theorem Keep.setObj (w : World) (o : Obj) : Keep (· = b) w { w with heap := w.heap.setIfInBounds b o } :=
  ⟨rfl, rfl, rfl, by simp, fun i _ h => by simp [Ne.symm h], Nat.le_refl _⟩
theorem Own.setMap (S : Own X w0 w L) (j : Nat) (hj : L[j]? = some (mapr key val b f)) {es : Array MapEntry} {clock : Nat} {g : κ → Option α} (h : MapOk key val g es clock) :
    Own X w0 { w with heap := w.heap.setIfInBounds b (.map es clock) } (L.set j (mapr key val b g)) := by
  refine S.turn j hj (Keep.setObj w _) (fun _ _ h => h) ⟨es, clock, ?_, h⟩ (fun _ h => .inl h)
  have := MapOk.lt (S.at j hj)
  simp [this]
end

section
variable {κ α : Type} [DecidableEq κ] {key : κ → Value} {val : α → Value} {f : κ → Option α} {k0 : κ} {a0 : α} {P : Program} {E : Operand → Value} {w : World} {ty T kt et : TypeId} {x y : Operand} {d : TypeDesc} {b : Nat} {v z : Value}
omit [DecidableEq κ] in
theorem x_lookup (h : (mapr key val b f).ok w) (hK : KeyOk P kt d key) (hu : ∀ w, (underlying T).run P w = .ok (.map kt et) w) (hx : E x = .map (some b)) (hy : E y = key k0) (hz : ∀ w, (zeroValue et).run P w = .ok z w)
    (hv : ((f k0).elim z val) = v) : X P E (.lookup T x y false) ty w v w := by
  classical
  subst hv
  obtain ⟨es, clock, hb, hM⟩ := h
  refine ⟨nofun, fun _ _ _ _ => ?_⟩
  rcases hM.find hK k0 with ⟨h1, h2, _⟩ | ⟨a, j, e, h1, h2, _⟩
  · simp [execOp, Instr.lookup, hx, hy, Sem.run_bind, hu, Result.andThen, MapKept.run_getObj_map hb, MapKept.run_checkKey hK.u (hK.is k0), MapKept.run_findKey hK.u h2, hz, h1]
  · simp [execOp, Instr.lookup, hx, hy, Sem.run_bind, hu, Result.andThen, MapKept.run_getObj_map hb, MapKept.run_checkKey hK.u (hK.is k0), MapKept.run_findKey hK.u h2, h1]
omit [DecidableEq κ] in
theorem x_lookup2 {t : Bool} (h : (mapr key val b f).ok w) (hK : KeyOk P kt d key) (hu : ∀ w, (underlying T).run P w = .ok (.map kt et) w) (hx : E x = .map (some b)) (hy : E y = key k0) (hz : ∀ w, (zeroValue et).run P w = .ok z w)
    (hv : ((f k0).elim z val) = v) (ht : (f k0).isSome = t) : X P E (.lookup T x y true) ty w (.tuple #[v, .bool t]) w := by
  classical
  subst hv; subst ht
  obtain ⟨es, clock, hb, hM⟩ := h
  refine ⟨nofun, fun _ _ _ _ => ?_⟩
  rcases hM.find hK k0 with ⟨h1, h2, _⟩ | ⟨a, j, e, h1, h2, _⟩
  · simp [execOp, Instr.lookup, hx, hy, Sem.run_bind, hu, Result.andThen, MapKept.run_getObj_map hb, MapKept.run_checkKey hK.u (hK.is k0), MapKept.run_findKey hK.u h2, hz, h1]
  · simp [execOp, Instr.lookup, hx, hy, Sem.run_bind, hu, Result.andThen, MapKept.run_getObj_map hb, MapKept.run_checkKey hK.u (hK.is k0), MapKept.run_findKey hK.u h2, h1]
/-- A nil map has nothing. -/
theorem x_lookup0 (hu : ∀ w, (underlying T).run P w = .ok (.map kt et) w) (hk : P.underlying kt = some d) (hi : MapKept.IsKey d v) (hx : E x = .map none) (hy : E y = v) (hz : ∀ w, (zeroValue et).run P w = .ok z w) : X P E (.lookup T x y false) ty w z w := by
  refine ⟨nofun, fun _ _ _ _ => ?_⟩
  have h2 : Instr.findNow d v [] 0 = some none := rfl
  simp [execOp, Instr.lookup, hx, hy, Sem.run_bind, hu, Result.andThen, MapKept.run_checkKey hk hi, MapKept.run_findKey hk h2, hz]
theorem run_mapUpdate (h : (mapr key val b f).ok w) (hK : KeyOk P kt d key) (hu : ∀ w, (underlying T).run P w = .ok (.map kt et) w) :
    ∃ es clock, (Instr.mapUpdate T (.map (some b)) (key k0) (val a0)).run P w = .ok () { w with heap := w.heap.setIfInBounds b (.map es clock) } ∧ MapOk key val (mset f k0 a0) es clock := by
  obtain ⟨es, clock, hb, hM⟩ := h
  rcases hM.find hK k0 with ⟨_, h2, h3⟩ | ⟨a, j, e, _, h2, h3, h4, _⟩
  · exact ⟨_, _, by simp [Instr.mapUpdate, Sem.run_bind, hu, Result.andThen, MapKept.run_getObj_map hb, MapKept.run_checkKey hK.u (hK.is k0), MapKept.run_findKey hK.u h2, MapKept.run_setObj_map _ hb], hM.push hK h3 a0⟩
  · exact ⟨_, _, by simp [Instr.mapUpdate, Sem.run_bind, hu, Result.andThen, MapKept.run_getObj_map hb, MapKept.run_checkKey hK.u (hK.is k0), MapKept.run_findKey hK.u h2, h3, h4, MapKept.run_keyThatStays (hK.is k0), MapKept.run_setObj_map _ hb], hM.modify hK h3 h4 a0⟩
end

section
variable {P : Program} {b : Frame} {cs : List Frame} {fin : Machine → Prop} {n : Nat} {all : Array Oper} {rest : List Oper} {k : List Item} {ρ : Env} {ds : List Deferred} {w w' : World}
  {d : Nat} {ty : TypeId} {pos : String} {af : Array Edge} {g : Option (Nat × Bool)} {T kt et : TypeId} {x y z : Operand} {dk : TypeDesc}
  {κ α : Type} [DecidableEq κ] {key : κ → Value} {val : α → Value} {f : κ → Option α} {k0 : κ} {a0 : α} {X : Nat → Prop} {w0 : World} {L : List Rsc} {m : Nat} {d' : Option Nat}
omit [DecidableEq κ] in
theorem New.map (w : World) (key : κ → Value) (val : α → Value) : New w (w.alloc (.map #[] 0)) (mapr key val w.heap.size mnil) :=
  ⟨⟨#[], 0, (MapKept.heap_alloc w _).1, .nil⟩, fun b hb => by cases hb; simp⟩
theorem Le.alloc_map (w : World) : Le w (w.alloc (.map #[] 0)) := ⟨rfl, rfl, rfl, by simp, fun b hb _ => (MapKept.heap_alloc w _).2 b hb, Nat.le_refl _⟩
omit [DecidableEq κ] in
/-- A new map. -/
theorem l_makeMap (key : κ → Value) (val : α → Value) (S : Own X w0 w L) (hg : gOk all n ρ g = true)
    (h : ∀ m w', Own X w0 w' (L ++ [mapr key val m mnil]) → Le w w' → RunL P b cs fin n all rest k (upd ρ d (.map (some m))) ds w') :
    RunL P b cs fin n all (⟨some d, .makeMap T none, ty, pos, af, g⟩ :: rest) k ρ ds w :=
  l_x hg (v := .map (some w.heap.size)) (w' := w.alloc (.map #[] 0)) ⟨nofun, fun _ _ _ _ => by simp [execOp, Instr.makeMap, Result.andThen]⟩ (h _ _ (S.add (Le.alloc_map w) (New.map w key val)) (Le.alloc_map w))
/-- An entry is written. -/
theorem l_mapUpdate (S : Own X w0 w L) (j : Nat) (hj : L[j]? = some (mapr key val m f)) (hg : gOk all n ρ g = true) (hK : KeyOk P kt dk key) (hu : ∀ w, (underlying T).run P w = .ok (.map kt et) w)
    (hx : ev n ρ x = .map (some m)) (hy : ev n ρ y = key k0) (hz : ev n ρ z = val a0)
    (h : ∀ w', Own X w0 w' (L.set j (mapr key val m (mset f k0 a0))) → Keep (· = m) w w' → RunL P b cs fin n all rest k (updO d' undef ρ) ds w') :
    RunL P b cs fin n all (⟨d', .mapUpdate T x y z, ty, pos, af, g⟩ :: rest) k ρ ds w := by
  obtain ⟨es, clock, h1, h2⟩ := run_mapUpdate (k0 := k0) (a0 := a0) (S.at j hj) hK hu
  refine l_skip hg nofun ?_ (h _ (S.setMap j hj h2) (Keep.setObj w _))
  simp only [execOp, hx, hy, hz, Sem.run_bind, h1, Result.andThen_ok, Sem.run_pure]
theorem l_insert (S : Own X w0 w L) (j : Nat) (hj : L[j]? = some (mapr key val m f)) (hg : gOk all n ρ g = true) (hK : KeyOk P kt dk key) (hu : ∀ w, (underlying T).run P w = .ok (.map kt et) w)
    (hx : ev n ρ x = .map (some m)) (hy : ev n ρ y = key k0) (hz : ev n ρ z = val a0)
    (h : ∀ w', Own X w0 w' (L.set j (mapr key val m (mset f k0 a0))) → Keep (· = m) w w' → RunL P b cs fin n all rest k (updO d' undef ρ) ds w') :
    RunL P b cs fin n all (⟨d', .insert T x y z, ty, pos, af, g⟩ :: rest) k ρ ds w := by
  obtain ⟨es, clock, h1, h2⟩ := run_mapUpdate (k0 := k0) (a0 := a0) (S.at j hj) hK hu
  refine l_skip hg nofun ?_ (h _ (S.setMap j hj h2) (Keep.setObj w _))
  simp only [execOp, hx, hy, hz, Sem.run_bind, h1, Result.andThen_ok, Sem.run_pure]
end
end Go.Vk

/- The proof engine, part 28: ranges over maps; what is taken out of a map. Generic over the program. -/
namespace Go.Vk
open Go
set_option linter.unusedSectionVars false
set_option linter.unusedVariables false

/-- The entries that have come, and what they say. -/
structure ItOk {κ α : Type} (key : κ → Value) (val : α → Value) (es : Array MapEntry) (vs : List MapEntry) (vis : List (κ × α)) : Prop where
  sub : ∀ x ∈ vs, x ∈ es.toList
  nd : (vs.map (·.born)).Nodup
  eq : vs.map (fun x => (x.key, x.val)) = vis.map fun p => (key p.1, val p.2)
/-- The iterator of a range over the map in block m. -/
def itr {κ α : Type} (key : κ → Value) (val : α → Value) (b m : Nat) (es : Array MapEntry) (clock : Nat) (vis : List (κ × α)) : Rsc :=
  ⟨(· = b), fun w => ∃ vs, w.heap[b]? = some (.mapIter (some m) clock (vs.map (·.born)).toArray clock) ∧ ItOk key val es vs vis, by intro w w' h hh; obtain ⟨vs, h1, h2⟩ := hh; exact ⟨vs, (h b rfl).trans h1, h2⟩⟩

section
variable {κ α : Type} {key : κ → Value} {val : α → Value} {f : κ → Option α} {es : Array MapEntry} {clock : Nat} {k : κ} {a : α} {vs : List MapEntry} {vis : List (κ × α)} {P : Program} {kt : TypeId} {d : TypeDesc}
theorem ItOk.nil : ItOk key val es [] ([] : List (κ × α)) := ⟨by simp, by simp, rfl⟩
theorem ItOk.left (h : ItOk key val es vs vis) (e : MapEntry) (he : e ∈ (leftOf es (vs.map (·.born)).toArray).toList) : e ∈ es.toList ∧ e.born ∉ vs.map (·.born) := by
  unfold leftOf at he
  simp only [Array.toList_filter, List.mem_filter, Bool.not_eq_true', List.contains_toArray] at he
  exact ⟨he.1, fun hh => by have := he.2; simp at this; obtain ⟨x, hx, e1⟩ := List.mem_map.1 hh; exact this x hx e1⟩
/-- All have come. -/
theorem ItOk.all (h : ItOk key val es vs vis) (hM : MapOk key val f es clock) (hK : KeyOk P kt d key) (hval : ∀ a a', val a = val a' → a = a') (h0 : (leftOf es (vs.map (·.born)).toArray).size = 0) : ∀ k a, f k = some a → (k, a) ∈ vis := by
  intro k a hf
  obtain ⟨x, hx, e1, e2⟩ := hM.all k a hf
  have hin : x.born ∈ vs.map (·.born) := by
    refine Classical.byContradiction fun hn => ?_
    have : x ∈ (leftOf es (vs.map (·.born)).toArray).toList := by
      unfold leftOf
      simp only [Array.toList_filter, List.mem_filter]
      refine ⟨hx, ?_⟩
      simp only [Bool.not_eq_true', List.contains_toArray]
      simp
      intro y hy e
      exact hn (List.mem_map.2 ⟨y, hy, e⟩)
    have h1 := List.length_pos_of_mem this
    rw [Array.length_toList, h0] at h1
    omega
  obtain ⟨y, hy, e3⟩ := List.mem_map.1 hin
  have hy' := h.sub y hy
  have hxy : y = x := by
    have hn := List.pairwise_iff_getElem.1 (show (es.toList.map (·.born)).Pairwise (· ≠ ·) from hM.st.2.1)
    obtain ⟨i, hi, q1⟩ := List.mem_iff_getElem.1 hx
    obtain ⟨j, hj, q2⟩ := List.mem_iff_getElem.1 hy'
    rcases Nat.lt_trichotomy i j with hlt | hlt | hlt
    · have := hn i j (by simpa using hi) (by simpa using hj) hlt
      simp only [List.getElem_map, q1, q2] at this
      exact absurd e3.symm this
    · subst hlt; exact q2.symm.trans q1
    · have := hn j i (by simpa using hj) (by simpa using hi) hlt
      simp only [List.getElem_map, q1, q2] at this
      exact absurd e3 this
  subst hxy
  have h4 : (y.key, y.val) ∈ vis.map fun p => (key p.1, val p.2) := by rw [← h.eq]; exact List.mem_map.2 ⟨y, hy, rfl⟩
  obtain ⟨p, hp, e5⟩ := List.mem_map.1 h4
  simp only [Prod.mk.injEq] at e5
  have : p = (k, a) := Prod.ext (hK.inj _ _ (e5.1.trans e1)) (hval _ _ (e5.2.trans e2))
  rw [← this]; exact hp
/-- One more. -/
theorem ItOk.more (h : ItOk key val es vs vis) (hM : MapOk key val f es clock) (hK : KeyOk P kt d key) {e : MapEntry} (he : e ∈ (leftOf es (vs.map (·.born)).toArray).toList) :
    ∃ k a, e.key = key k ∧ e.val = val a ∧ f k = some a ∧ (∀ p ∈ vis, p.1 ≠ k) ∧ ItOk key val es (vs ++ [e]) (vis ++ [(k, a)]) := by
  obtain ⟨h1, h2⟩ := h.left e he
  obtain ⟨k, a, e1, e2, e3⟩ := hM.of e h1
  refine ⟨k, a, e1, e2, e3, fun p hp ek => ?_, fun x hx => ?_, ?_, by rw [List.map_append, List.map_append, h.eq]; simp [e1, e2]⟩
  · have h4 : (key p.1, val p.2) ∈ vs.map (fun x => (x.key, x.val)) := by rw [h.eq]; exact List.mem_map.2 ⟨p, hp, rfl⟩
    obtain ⟨y, hy, e5⟩ := List.mem_map.1 h4
    simp only [Prod.mk.injEq] at e5
    have hy' := h.sub y hy
    have hn := List.pairwise_iff_getElem.1 (show (es.toList.map (·.key)).Pairwise (· ≠ ·) from hM.st.2.2)
    obtain ⟨i, hi, q1⟩ := List.mem_iff_getElem.1 h1
    obtain ⟨j, hj, q2⟩ := List.mem_iff_getElem.1 hy'
    have hkk : y.key = e.key := by rw [e5.1, e1, ek]
    rcases Nat.lt_trichotomy i j with hlt | hlt | hlt
    · have := hn i j (by simpa using hi) (by simpa using hj) hlt
      simp only [List.getElem_map, q1, q2] at this
      exact absurd hkk.symm this
    · subst hlt
      have : y = e := q2.symm.trans q1
      subst this
      exact h2 (List.mem_map.2 ⟨y, hy, rfl⟩)
    · have := hn j i (by simpa using hj) (by simpa using hi) hlt
      simp only [List.getElem_map, q1, q2] at this
      exact absurd hkk this
  · rcases List.mem_append.1 hx with hx | hx
    · exact h.sub x hx
    · simp at hx; subst hx; exact h1
  · rw [List.map_append]
    refine List.nodup_append.2 ⟨h.nd, by simp, fun x hx y hy => ?_⟩
    simp at hy; subst hy
    exact fun e => h2 (e ▸ hx)
/-- What has come is in the map, and each key once. -/
theorem ItOk.facts (h : ItOk key val es vs vis) (hM : MapOk key val f es clock) (hK : KeyOk P kt d key) (hval : ∀ a a', val a = val a' → a = a') : ∀ p ∈ vis, f p.1 = some p.2 := by
  intro p hp
  have h4 : (key p.1, val p.2) ∈ vs.map (fun x => (x.key, x.val)) := by rw [h.eq]; exact List.mem_map.2 ⟨p, hp, rfl⟩
  obtain ⟨y, hy, e5⟩ := List.mem_map.1 h4
  simp only [Prod.mk.injEq] at e5
  obtain ⟨k, a, e1, e2, e3⟩ := hM.of y (h.sub y hy)
  have q1 : p.1 = k := hK.inj _ _ (e5.1.symm.trans e1)
  have q2 : p.2 = a := hval _ _ (e5.2.symm.trans e2)
  rw [q1, q2]; exact e3

theorem run_next_at {w : World} {ty : TypeId} {b m : Nat} {vs : List MapEntry} (hi : w.heap[b]? = some (.mapIter (some m) clock (vs.map (·.born)).toArray clock)) (hb : w.heap[m]? = some (.map es clock)) (hold : ∀ x ∈ es.toList, x.born < clock) :
    ((leftOf es (vs.map (·.born)).toArray).size = 0 ∧ (Instr.next (.pointer (some ⟨b, 0, none⟩)) false ty).run P w = .ok (.tuple #[.bool false]) w) ∨
    ∃ e ∈ (leftOf es (vs.map (·.born)).toArray).toList, ∃ n, w.drawn ≤ n ∧ (Instr.next (.pointer (some ⟨b, 0, none⟩)) false ty).run P w = .ok (.tuple #[.bool true, e.key, e.val]) (put { w with drawn := n } b (.mapIter (some m) clock ((vs ++ [e]).map (·.born)).toArray clock)) := by
  simp only [Instr.next, getObj, Sem.run_bind, Sem.run, hi, hb, Result.andThen, next_test_false _ es clock clock hold (Nat.le_refl _), Bool.false_eq_true, if_false]
  unfold leftOf
  have hmem : ∀ x ∈ (Array.filter (fun e => !(vs.map (·.born)).toArray.contains e.born) es).toList, x.born < clock := fun x hx => hold x (by simp at hx ⊢; exact hx.1)
  generalize Array.filter (fun e => !(vs.map (·.born)).toArray.contains e.born) es = L at hmem ⊢
  have e1 : L.filter (fun x => decide (x.born < clock)) = L := Array.filter_eq_self.2 (fun x hx => by simpa using hmem x (by simpa using hx))
  have e2 : L.filter (fun x => decide (x.born ≥ clock)) = #[] := by
    rw [Array.filter_eq_empty_iff]
    intro x hx
    have := hmem x (by simpa using hx)
    simp
    omega
  simp only [e1, e2, Array.append_empty]
  by_cases h0 : L.size = 0
  · left
    have : L = #[] := Array.eq_empty_of_size_eq_zero h0
    subst this
    refine ⟨rfl, ?_⟩
    simp [choose, Sem.run, Question.forced]
  · right
    have hne : L.isEmpty = false := by simp [Array.isEmpty, h0]
    simp only [hne, Bool.false_eq_true, if_false, Array.empty_append, Array.size_map]
    have hch : ∃ (j n : Nat), j < L.size ∧ w.drawn ≤ n ∧ (choose (Question.mapNext L.size)).run P w = .ok j { w with drawn := n } := by
      by_cases hf : L.size ≤ 1
      · exact ⟨0, w.drawn, by omega, Nat.le_refl _, by simp [choose, Sem.run, Question.forced, hf]⟩
      · exact ⟨w.tape w.drawn (Question.mapNext L.size) % L.size, w.drawn + 1, Nat.mod_lt _ (by omega), Nat.le_succ _, by
          simp only [choose, Sem.run, Question.forced, decide_eq_true_eq, hf, if_false, Question.cut]⟩
    obtain ⟨j, n, hj, hdr, hrun⟩ := hch
    refine ⟨L[j], by simp, n, hdr, ?_⟩
    have hset : ∀ o', (setObj b o').run P { w with drawn := n } = .ok () (put { w with drawn := n } b o') := fun o' => run_setObj (w := { w with drawn := n }) hi rfl
    simp only [hrun, Array.getElem?_map, Array.getElem?_eq_getElem hj, Option.map_some, Sem.run_bind, hset, Result.andThen]
    have e3 : (vs.map (·.born)).toArray.push L[j].born = ((vs ++ [L[j]]).map (·.born)).toArray := by simp
    rw [e3]
    rfl
end

section
variable {P : Program} {b : Frame} {cs : List Frame} {fin : Machine → Prop} {n : Nat} {all : Array Oper} {rest : List Oper} {k : List Item} {ρ : Env} {ds : List Deferred} {w w' : World}
  {d : Nat} {ty : TypeId} {pos : String} {af : Array Edge} {g : Option (Nat × Bool)} {T kt et : TypeId} {x y z : Operand} {dk : TypeDesc}
  {κ α : Type} {key : κ → Value} {val : α → Value} {f : κ → Option α} {X : Nat → Prop} {w0 : World} {L : List Rsc} {m bi : Nat} {es : Array MapEntry} {clock : Nat} {vis : List (κ × α)}
/-- A range over a map begins. -/
theorem l_range (key : κ → Value) (val : α → Value) (S : Own X w0 w L) (hg : gOk all n ρ g = true) (hu : ∀ w, (underlying T).run P w = .ok (.map kt et) w) (hx : ev n ρ x = .map (some m)) (hm : w.heap[m]? = some (.map es clock))
    (h : ∀ bi w', Own X w0 w' (L ++ [itr key val bi m es clock []]) → Le w w' → RunL P b cs fin n all rest k (upd ρ d (.pointer (some ⟨bi, 0, none⟩))) ds w') :
    RunL P b cs fin n all (⟨some d, .range T x, ty, pos, af, g⟩ :: rest) k ρ ds w := by
  refine l_x hg (v := .pointer (some ⟨w.heap.size, 0, none⟩)) (w' := w.alloc (.mapIter (some m) clock #[] clock)) ⟨nofun, fun _ _ _ _ => ?_⟩ (h _ _ (S.add (Le.alloc_obj w _) ⟨⟨[], heap_alloc_new w _, .nil⟩, fun b hb => by cases hb; simp⟩) (Le.alloc_obj w _))
  simp [execOp, Instr.range, hx, Sem.run_bind, hu, Result.andThen, MapKept.run_getObj_map hm]
/-- The next entry, or none. -/
theorem l_next (S : Own X w0 w L) (j : Nat) (hj : L[j]? = some (itr key val bi m es clock vis)) (hg : gOk all n ρ g = true) (hK : KeyOk P kt dk key) (hval : ∀ a a', val a = val a' → a = a') (hM : MapOk key val f es clock)
    (hx : ev n ρ x = .pointer (some ⟨bi, 0, none⟩)) (hm : w.heap[m]? = some (.map es clock))
    (h0 : (∀ k a, f k = some a → (k, a) ∈ vis) → RunL P b cs fin n all rest k (upd ρ d (.tuple #[.bool false])) ds w)
    (h1 : ∀ c a w', f c = some a → (∀ p ∈ vis, p.1 ≠ c) → Own X w0 w' (L.set j (itr key val bi m es clock (vis ++ [(c, a)]))) → Keep (· = bi) w w' → RunL P b cs fin n all rest k (upd ρ d (.tuple #[.bool true, key c, val a])) ds w') :
    RunL P b cs fin n all (⟨some d, .next x false, ty, pos, af, g⟩ :: rest) k ρ ds w := by
  obtain ⟨vs, hi, hv⟩ := S.at j hj
  rcases run_next_at (P := P) (ty := ty) hi hm hM.st.1 with ⟨q1, q2⟩ | ⟨e, q1, nn, hdr, q2⟩
  · exact l_x hg ⟨nofun, fun _ _ _ _ => by simp only [execOp, hx, Sem.run_bind, q2, Result.andThen_ok, Sem.run_pure]⟩ (h0 (hv.all hM hK hval q1))
  · obtain ⟨c, a, e1, e2, e3, e4, e5⟩ := hv.more hM hK q1
    rw [e1, e2] at q2
    refine l_x hg ⟨nofun, fun _ _ _ _ => by simp only [execOp, hx, Sem.run_bind, q2, Result.andThen_ok, Sem.run_pure]; rfl⟩ (h1 c a _ e3 e4 ?_ ?_)
    · have hk := Keep.put { w with drawn := nn } bi (.mapIter (some m) clock ((vs ++ [e]).map (·.born)).toArray clock)
      exact S.turn (Y := (· = bi)) j hj ⟨hk.os, hk.tape, hk.output, hk.size, hk.block, hdr⟩ (fun _ _ h => h) ⟨_, put_same (w := { w with drawn := nn }) hi, e5⟩ (fun _ h => .inl h)
    · have hk := Keep.put { w with drawn := nn } bi (.mapIter (some m) clock ((vs ++ [e]).map (·.born)).toArray clock)
      exact ⟨hk.os, hk.tape, hk.output, hk.size, hk.block, hdr⟩
/-- The entry that came. -/
theorem x_entry {c : κ} {a : α} {E : Operand → Value} (h : (itr key val bi m es clock (vis ++ [(c, a)])).ok w) (hM : MapOk key val f es clock) (hm : w.heap[m]? = some (.map es clock)) (hx : E x = .pointer (some ⟨bi, 0, none⟩)) :
    Go.Vk.X P E (.entry x) ty w (.tuple #[key c, val a]) w := by
  obtain ⟨vs, hi, hv⟩ := h
  have hl : vs ≠ [] := fun e => by have := hv.eq; rw [e] at this; simp at this
  obtain ⟨us, e, rfl⟩ : ∃ us e, vs = us ++ [e] := ⟨vs.dropLast, vs.getLast hl, (List.dropLast_concat_getLast hl).symm⟩
  have heq := hv.eq
  rw [List.map_append, List.map_append] at heq
  obtain ⟨_, h2⟩ := List.append_inj' heq (by simp)
  simp only [List.map_cons, List.map_nil, List.cons.injEq, Prod.mk.injEq, and_true] at h2
  have hin := hv.sub e (by simp)
  have hf : es.find? (·.born == e.born) = some e := by rw [← Array.find?_toList]; exact find_born e es.toList hM.st.2.1 hin
  refine ⟨nofun, fun _ _ _ _ => ?_⟩
  have hb : ((us ++ [e]).map (·.born)).toArray.back? = some e.born := by simp
  simp only [execOp, hx, Instr.entry, getObj, Sem.run_bind, Sem.run, hi, hm, Result.andThen, hb, bne_self_eq_false, Bool.false_eq_true, if_false, hf, h2.1, h2.2, Sem.run_pure]
/-- The map as a block, and back. -/
theorem Own.mapObj (S : Own X w0 w L) (j : Nat) (hj : L[j]? = some (mapr key val m f)) : ∃ es clock, MapOk key val f es clock ∧ Own X w0 w (L.set j (Vk.obj m (.map es clock))) := by
  obtain ⟨es, clock, h1, h2⟩ := S.at j hj
  exact ⟨es, clock, h2, S.as j hj h1 fun b hb => hb⟩
theorem Own.objMap (S : Own X w0 w L) (j : Nat) (hj : L[j]? = some (Vk.obj m (.map es clock))) (hM : MapOk key val f es clock) : Own X w0 w (L.set j (mapr key val m f)) :=
  S.as j hj ⟨es, clock, S.obj j hj, hM⟩ fun b hb => hb
end

section
variable {P : Program} {b : Frame} {cs : List Frame} {fin : Machine → Prop} {n : Nat} {all : Array Oper} {rest : List Oper} {k : List Item} {ρ : Env} {ds : List Deferred} {w w' : World}
  {d : Nat} {ty : TypeId} {pos : String} {af : Array Edge} {g : Option (Nat × Bool)} {T kt et : TypeId} {x y z : Operand} {dk : TypeDesc}
  {κ α : Type} [DecidableEq κ] {key : κ → Value} {val : α → Value} {f : κ → Option α} {X : Nat → Prop} {w0 : World} {L : List Rsc} {m : Nat} {k0 : κ}
/-- An entry is taken out. -/
theorem l_delete {d' : Option Nat} {t2 : TypeId} (S : Own X w0 w L) (j : Nat) (hj : L[j]? = some (mapr key val m f)) (hg : gOk all n ρ g = true) (hK : KeyOk P kt dk key) (hu : ∀ w, (underlying T).run P w = .ok (.map kt et) w)
    (hx : ev n ρ x = .map (some m)) (hy : ev n ρ y = key k0)
    (h : ∀ w', Own X w0 w' (L.set j (mapr key val m (mdel f k0))) → Keep (· = m) w w' → RunL P b cs fin n all rest k (updO d' (.tuple #[]) ρ) ds w') :
    RunL P b cs fin n all (⟨d', .call ⟨.builtin .delete, #[x, y], #[T, t2]⟩, ty, pos, af, g⟩ :: rest) k ρ ds w := by
  obtain ⟨es, clock, hb, hM⟩ := S.at j hj
  rcases hM.find hK k0 with ⟨h1, h2, _⟩ | ⟨a, i, e, h1, h2, h3, h4, _⟩
  · have hM' : MapOk key val (mdel f k0) es clock := hM.same fun k' => by
      unfold mdel; split
      · next e => rw [e, h1]
      · rfl
    refine l_value hg nofun ?_ (h _ (S.setMap j hj hM') (Keep.setObj w _))
    simp [execOp, resolve, invoke, builtin, Builtin.delete_, hx, hy, Sem.run_bind, hu, Result.andThen, MapKept.run_getObj_map hb, MapKept.run_checkKey hK.u (hK.is k0), MapKept.run_findKey hK.u h2, MapKept.run_setObj_map _ hb]
  · refine l_value hg nofun ?_ (h _ (S.setMap j hj (hM.erase hK h3 h4)) (Keep.setObj w _))
    simp [execOp, resolve, invoke, builtin, Builtin.delete_, hx, hy, Sem.run_bind, hu, Result.andThen, MapKept.run_getObj_map hb, MapKept.run_checkKey hK.u (hK.is k0), MapKept.run_findKey hK.u h2, MapKept.run_setObj_map _ hb]
end
end Go.Vk

/- The proof engine, part 27: panics, deferred calls, recover. Generic over the program. -/
namespace Go.Vk
open Go

abbrev pentry (v : Value) : PanicEntry := { v := v, recovered := false, goexit := false }
abbrev pdone (v : Value) : PanicEntry := { v := v, recovered := true, goexit := false }

/-- The call returns, or panics with one value. -/
def Cp (P : Program) (f : FuncId) (args : Array Value) (w : World) (R Q : Value → World → Prop) : Prop :=
  Calls P f args w fun e w' => (∃ v, e = .returned v ∧ R v w') ∨ ∃ v, e = .panicked [pentry v] ∧ Q v w'
/-- How a function's frame has to end, if it may panic. -/
def finP (P : Program) (f : FuncId) (cs : List Frame) (R Q : Value → World → Prop) : Machine → Prop := fun m =>
  ∃ e w' fr, m = lone fr cs w' ∧ ((∃ v, e = Ending.returned v ∧ R v w') ∨ ∃ v, e = Ending.panicked [pentry v] ∧ Q v w') ∧ fr.fn = f ∧ fr.leaving P w' e

section
variable {P : Program} {f : FuncId} {args : Array Value} {w : World} {R R' Q Q' : Value → World → Prop}
theorem Cp.mono (h : Cp P f args w R Q) (hr : ∀ v w', R v w' → R' v w') (hq : ∀ v w', Q v w' → Q' v w') : Cp P f args w R' Q' :=
  Calls.mono h fun _ _ h => h.imp (fun ⟨v, he, hR⟩ => ⟨v, he, hr _ _ hR⟩) fun ⟨v, he, hQ⟩ => ⟨v, he, hq _ _ hQ⟩
theorem Cl.cp (h : Cl P f args w R) : Cp P f args w R Q := Calls.mono h fun _ _ ⟨v, he, hR⟩ => .inl ⟨v, he, hR⟩
theorem Cp.cl (h : Cp P f args w R fun _ _ => False) : Cl P f args w R := Calls.mono h fun _ _ h => h.resolve_right fun ⟨_, _, hF⟩ => hF

theorem fn_of_runP {F : Func} {c : Code} {args : List Value} (N : Nat) (hf : P.funcs[f]? = some F) (hb : F.body = some c) (hN : F.ntmps = N) (hle : Nat.ble args.length N = true)
    (h : ∀ cs, Run P (frameOf f) cs (finP P f cs R Q) N [.code c] (env0 args) [] w) : Cp P f args.toArray w R Q := by
  have ha : args.length ≤ N := Nat.le_of_ble_eq_true hle
  intro cs
  obtain ⟨m, hs, e, w', fr, rfl, hR, hfn, hl⟩ := h cs
  have henter : Frame.enter P f args.toArray .normal = (frameOf f).atR (mkA N (env0 args) []) [.code c] := by
    have ht : args.toArray ++ Array.replicate (N - args.toArray.size) undef = Array.ofFn (n := N) fun i => env0 args i := by
      apply Array.ext
      · simp; omega
      · intro i h1 h2
        simp only [Array.size_ofFn] at h2
        rw [Array.getElem_append]
        simp only [Array.getElem_ofFn, env0]
        by_cases hi : i < args.length
        · simp [hi]
        · simp [hi]
    simp [Frame.enter, Frame.atR, hf, hb, hN, frameOf, mkA, ← ht]
  refine ⟨e, w', fr, hR, ?_, hfn, hl⟩
  rw [henter]
  rcases hR with ⟨v, rfl, _⟩ | ⟨v, rfl, _⟩
  · exact hs
  · exact hs
end

section
variable {P : Program} {f : FuncId} {cs : List Frame} {R Q : Value → World → Prop} {N : Nat} {k : List Item} {ρ : Env} {w : World} {F : Func} {rs : List ResultVar}
theorem p_ret (vs : List Value) (hf : P.funcs[f]? = some F) (hr : F.results = rs.toArray) (hv : Res P N ρ w rs vs) (hR : R (packed vs) w) :
    Run P (frameOf f) cs (finP P f cs R Q) N (.code .ret :: k) ρ [] w :=
  ⟨_, .one (stepR_ret rfl), _, w, _, rfl, .inl ⟨_, rfl, hR⟩, rfl, rfl, rfl, rfl, F, hf, results_run (ds := []) hr hv⟩
theorem p_end (vs : List Value) (hf : P.funcs[f]? = some F) (hr : F.results = rs.toArray) (hv : Res P N ρ w rs vs) (hR : R (packed vs) w) :
    Run P (frameOf f) cs (finP P f cs R Q) N [] ρ [] w :=
  ⟨_, .one (stepR_end rfl), _, w, _, rfl, .inl ⟨_, rfl, hR⟩, rfl, rfl, rfl, rfl, F, hf, results_run (ds := []) hr hv⟩
end

/-- The frame is on its way out, in a mode. -/
def LeaveU (P : Program) (b : Frame) (cs : List Frame) (fin : Machine → Prop) (n : Nat) (k : List Item) (ρ : Env) (ds : List Deferred) (u : FrameMode) (w : World) : Prop :=
  ∃ m, Steps P (lone { b.atR (mkA n ρ ds) k with mode := u } cs w) m ∧ fin m

/-- A deferred call returns; it may have recovered: the mode of the frame below it. -/
def Dl (P : Program) (f : FuncId) (args : Array Value) (u : FrameMode) (w : World) (R : FrameMode → World → Prop) : Prop :=
  CallsD P f args u w fun e u' w' => ∃ v, e = .returned v ∧ R u' w'

section
variable {P : Program} {b : Frame} {cs : List Frame} {fin : Machine → Prop} {n : Nat} {all : Array Oper} {rest : List Oper} {k : List Item} {ρ : Env} {ds : List Deferred} {w w' : World} {f : FuncId} {R Q : Value → World → Prop}
  {ty : TypeId} {pos : String} {af : Array Edge} {g : Option (Nat × Bool)} {x : Operand} {F : Func}

theorem r_retU (hb : b.roundOf = none) (h : LeaveU P b cs fin n (.code .ret :: k) ρ ds .returning w) : Run P b cs fin n (.code .ret :: k) ρ ds w := r_retL hb h
theorem r_endU (hb : b.roundOf = none) (h : LeaveU P b cs fin n [] ρ ds .returning w) : Run P b cs fin n [] ρ ds w := r_endL hb h
theorem leaveU_done {rs : List ResultVar} (vs : List Value) (hf : P.funcs[f]? = some F) (hr : F.results = rs.toArray) (hv : Res P n ρ w rs vs) (hR : R (packed vs) w) :
    LeaveU P (frameOf f) cs (finRet P f cs R) n k ρ [] .returning w := leave_done vs hf hr hv hR
/-- A panic that nobody catches here. -/
theorem leaveU_panic {v : Value} (hf : P.funcs[f]? = some F) (hQ : Q v w) : LeaveU P (frameOf f) cs (finP P f cs R Q) n k ρ [] (.panicking [pentry v]) w :=
  ⟨_, .refl _ _, _, w, _, rfl, .inr ⟨v, rfl, hQ⟩, rfl, rfl, rfl, F, hf⟩

/-- An operation that panics. -/
theorem l_halt {o : Oper} {v : Value} (hg : gOk all n ρ o.guard = true) (hnd : ∀ c, o.op ≠ .defer c) (hr : (execOp (ev n ρ) o).run P w = .halt (.panic v) w')
    (h : ∀ k', LeaveU P b cs fin n k' ρ ds (.panicking [pentry v]) w') : RunL P b cs fin n all (o :: rest) k ρ ds w := by
  intro is his
  obtain ⟨i, is', rfl, ho, his'⟩ := is_cons his
  obtain ⟨m, h1, h2⟩ := h (.inRegion all (i :: is') :: k)
  refine ⟨m, .head (step_lone_go ?_) h1, h2⟩
  rw [stepGR_op ho (by rw [wanted_gOk]; exact hg), Oper.semAt_eq _ _ _ hnd, mkA_eval]
  simp [stepG.apply, hr, Frame.raise, Frame.atR]
theorem l_panic {t : TypeId} {y : Value} (hg : gOk all n ρ g = true) (hx : ev n ρ x = .iface t y) (h : ∀ k', LeaveU P b cs fin n k' ρ ds (.panicking [pentry (.iface t y)]) w) {d' : Option Nat} :
    RunL P b cs fin n all (⟨d', .panic x, ty, pos, af, g⟩ :: rest) k ρ ds w :=
  l_halt hg nofun (by simp [execOp, hx, Instr.panic, goPanic, Sem.run]) h

/-- A call that may panic. -/
theorem l_enterP {o : Oper} {fc : FuncId} {args : Array Value} (hg : gOk all n ρ o.guard = true) (hnd : ∀ c, o.op ≠ .defer c) (hr : (execOp (ev n ρ) o).run P w = .ok (.enter fc args) w') (hc : Cp P fc args w' R Q)
    (h : ∀ v w'', R v w'' → RunL P b cs fin n all rest k (updO o.dst v ρ) ds w'') (hp : ∀ v w'' k', Q v w'' → LeaveU P b cs fin n k' ρ ds (.panicking [pentry v]) w'') : RunL P b cs fin n all (o :: rest) k ρ ds w := by
  intro is his
  obtain ⟨i, is', rfl, ho, his'⟩ := is_cons his
  obtain ⟨e, w'', fr, hRQ, hs, _, hl⟩ := hc (b.atR (mkA n ρ ds) (.inRegion all (i :: is') :: k) :: cs)
  have hent : step P (lone (b.atR (mkA n ρ ds) (.inRegion all (i :: is') :: k)) cs w) = .next (lone (Frame.enter P fc args .normal) (b.atR (mkA n ρ ds) (.inRegion all (i :: is') :: k) :: cs) w') := by
    refine step_lone_go ?_
    rw [stepGR_op ho (by rw [wanted_gOk]; exact hg), Oper.semAt_eq _ _ _ hnd, mkA_eval]
    simp [stepG.apply, hr, Frame.atR]
  rcases hRQ with ⟨v, rfl, hR⟩ | ⟨v, rfl, hQ⟩
  · obtain ⟨m, hm', hf⟩ := h v w'' hR is' his'
    refine ⟨m, .head hent (Steps.trans hs (.head (step_leave_returned hl) ?_)), hf⟩
    rw [finish_mkA ho]
    exact hm'
  · obtain ⟨m, hm', hf⟩ := hp v w'' (.inRegion all (i :: is') :: k) hQ
    refine ⟨m, .head hent (Steps.trans hs (.head (step_leave_panicked hl) ?_)), hf⟩
    have e : (b.atR (mkA n ρ ds) (.inRegion all (i :: is') :: k)).raise [pentry v] = { b.atR (mkA n ρ ds) (.inRegion all (i :: is') :: k) with mode := .panicking [pentry v] } := by
      simp [Frame.raise, Frame.atR]
    rw [e]
    exact hm'

/-- A call is deferred. -/
theorem l_defer {Fo : Operand} {as : List Operand} {ts : Array TypeId} {gf : FuncId} (first cap vals : List Value) {d' : Option Nat} (hro : b.roundOf = none) (hg : gOk all n ρ g = true) (hF : ev n ρ Fo = .func (.func gf) first.toArray cap.toArray) (ha : first ++ as.map (ev n ρ) = vals)
    (h : RunL P b cs fin n all rest k (updO d' undef ρ) ({ target := .fn (.func gf) cap.toArray, args := vals.toArray } :: ds) w) :
    RunL P b cs fin n all (⟨d', .defer ⟨.value Fo, as.toArray, ts⟩, ty, pos, af, g⟩ :: rest) k ρ ds w := by
  subst ha
  intro is his
  obtain ⟨i, is', rfl, ho, his'⟩ := is_cons his
  obtain ⟨m, h1, h2⟩ := h is' his'
  refine ⟨m, .head (step_lone_go ?_) h1, h2⟩
  rw [stepGR_op ho (by rw [wanted_gOk]; exact hg), hro, Oper.semAt_none, mkA_eval]
  have hr : (execOp (ev n ρ) ⟨d', .defer ⟨.value Fo, as.toArray, ts⟩, ty, pos, af, g⟩).run P w = .ok (.defer { target := .fn (.func gf) cap.toArray, args := (first ++ as.map (ev n ρ)).toArray }) w := by
    simp [execOp, resolve, hF, Deferred.ofValue]
  have e2 := finish_mkA (b := b) (n := n) (all := all) (k := k) (ρ := ρ) (ds := { target := .fn (.func gf) cap.toArray, args := (first ++ as.map (ev n ρ)).toArray } :: ds) (i := i) (is' := is') ho undef
  simp only at e2
  rw [← e2]
  simp [stepG.apply, hr]
  rfl

/-- The next deferred call. -/
theorem leave_defer {d : Deferred} {gf : FuncId} {cap : Array Value} {u : FrameMode} (hd : d.target = .fn (.func gf) cap) (he : ∀ args w, (callFunc gf args).run P w = .ok (.enter gf args) w) (hu : u ≠ .run)
    (h : Dl P gf (d.args ++ cap) u w fun u' w' => LeaveU P b cs fin n k ρ ds (settle u') w') : LeaveU P b cs fin n k ρ (d :: ds) u w := by
  have hi : (invoke d.target d.args).run P w = .ok (.enter gf (d.args ++ cap)) w := by rw [hd]; simp only [invoke, he]
  have h1 := step_defer (P := P) (fr := { b.atR (mkA n ρ (d :: ds)) k with mode := u }) (cs := cs) (w := w) (d := d) (ds := ds) hu rfl hd hi
  obtain ⟨e, u', w', fr, ⟨v, rfl, m, h2, h3⟩, hs, hk, hgo⟩ := h { b.atR (mkA n ρ ds) k with mode := u } cs rfl
  refine ⟨m, .head h1 (Steps.trans hs (.head (step_going_returned (c := { b.atR (mkA n ρ ds) k with mode := u' }) hk hgo) ?_)), h3⟩
  exact h2
end

/-! ### the deferred function's own frame -/
def frameD (f : FuncId) : Frame := { (default : Frame) with fn := f, kind := .deferred, roundOf := none }
def finD (P : Program) (_f : FuncId) (c : Frame) (cs : List Frame) (R : FrameMode → World → Prop) : Machine → Prop := fun m =>
  ∃ v u' w' fr, m = lone fr ({ c with mode := u' } :: cs) w' ∧ R u' w' ∧ fr.kind = .deferred ∧ fr.going P w' (.returned v)
section
variable {P : Program} {f : FuncId} {w : World} {R : FrameMode → World → Prop} {u : FrameMode}
theorem dl_of_run {F : Func} {c : Code} {args : List Value} (N : Nat) (hf : P.funcs[f]? = some F) (hb : F.body = some c) (hN : F.ntmps = N) (hle : Nat.ble args.length N = true)
    (h : ∀ c0 cs, c0.mode = u → Run P (frameD f) (c0 :: cs) (finD P f c0 cs R) N [.code c] (env0 args) [] w) : Dl P f args.toArray u w R := by
  have ha : args.length ≤ N := Nat.le_of_ble_eq_true hle
  intro c0 cs hc
  obtain ⟨m, hs, v, u', w', fr, rfl, hR, hk, hl⟩ := h c0 cs hc
  have henter : Frame.enter P f args.toArray .deferred = (frameD f).atR (mkA N (env0 args) []) [.code c] := by
    have ht : args.toArray ++ Array.replicate (N - args.toArray.size) undef = Array.ofFn (n := N) fun i => env0 args i := by
      apply Array.ext
      · simp; omega
      · intro i h1 h2
        simp only [Array.size_ofFn] at h2
        rw [Array.getElem_append]
        simp only [Array.getElem_ofFn, env0]
        by_cases hi : i < args.length
        · simp [hi]
        · simp [hi]
    simp [Frame.enter, Frame.atR, hf, hb, hN, frameD, mkA, ← ht]
  refine ⟨.returned v, u', w', fr, ⟨v, rfl, hR⟩, ?_, hk, hl⟩
  rw [henter]
  exact hs
end
section
variable {P : Program} {f : FuncId} {c0 : Frame} {cs : List Frame} {R : FrameMode → World → Prop} {N : Nat} {k : List Item} {ρ : Env} {w : World} {F : Func} {rs : List ResultVar} {u : FrameMode}
theorem d_ret (vs : List Value) (hf : P.funcs[f]? = some F) (hr : F.results = rs.toArray) (hv : Res P N ρ w rs vs) (hR : R u w) :
    Run P (frameD f) ({ c0 with mode := u } :: cs) (finD P f c0 cs R) N (.code .ret :: k) ρ [] w :=
  ⟨_, .one (stepR_ret rfl), _, u, w, _, rfl, hR, rfl, rfl, rfl, F, hf, results_run (ds := []) hr hv⟩
theorem d_end (vs : List Value) (hf : P.funcs[f]? = some F) (hr : F.results = rs.toArray) (hv : Res P N ρ w rs vs) (hR : R u w) :
    Run P (frameD f) ({ c0 with mode := u } :: cs) (finD P f c0 cs R) N [] ρ [] w :=
  ⟨_, .one (stepR_end rfl), _, u, w, _, rfl, hR, rfl, rfl, rfl, F, hf, results_run (ds := []) hr hv⟩
theorem d_same {b : Frame} {fin : Machine → Prop} {n : Nat} {ds : List Deferred} (hc : c0.mode = u) (h : Run P b ({ c0 with mode := u } :: cs) fin n k ρ ds w) : Run P b (c0 :: cs) fin n k ρ ds w := by
  have e : ({ c0 with mode := u } : Frame) = c0 := by subst hc; rfl
  rwa [e] at h
variable {fin : Machine → Prop} {n : Nat} {all : Array Oper} {rest : List Oper} {ds : List Deferred} {d : Nat} {ts : Array TypeId} {ty : TypeId} {pos : String} {af : Array Edge} {g : Option (Nat × Bool)}
/-- A panic is recovered. -/
theorem l_recover {v : Value} (hg : gOk all n ρ g = true) (h : RunL P (frameD f) ({ c0 with mode := .panicking [pdone v] } :: cs) fin n all rest k (upd ρ d v) ds w) :
    RunL P (frameD f) ({ c0 with mode := .panicking [pentry v] } :: cs) fin n all (⟨some d, .call ⟨.builtin .recover, #[], ts⟩, ty, pos, af, g⟩ :: rest) k ρ ds w := by
  intro is his
  obtain ⟨i, is', rfl, ho, his'⟩ := is_cons his
  obtain ⟨m, h1, h2⟩ := h is' his'
  refine ⟨m, .head (step_lone_go ?_) h1, h2⟩
  rw [stepGR_op ho (by rw [wanted_gOk]; exact hg), show (frameD f).roundOf = none from rfl, Oper.semAt_none, mkA_eval]
  have hr : (execOp (ev n ρ) ⟨some d, .call ⟨.builtin .recover, #[], ts⟩, ty, pos, af, g⟩).run P w = .ok .recover w := by
    simp [execOp, resolve, invoke, builtin]
  have e2 := finish_mkA (b := frameD f) (n := n) (all := all) (k := k) (ρ := ρ) (ds := ds) (i := i) (is' := is') ho v
  simp only [updO] at e2
  rw [← e2]
  simp [stepG.apply, hr]
  rfl
/-- There is no panic. -/
theorem l_recover0 (hg : gOk all n ρ g = true) (h : RunL P (frameD f) ({ c0 with mode := .returning } :: cs) fin n all rest k (upd ρ d .nilIface) ds w) :
    RunL P (frameD f) ({ c0 with mode := .returning } :: cs) fin n all (⟨some d, .call ⟨.builtin .recover, #[], ts⟩, ty, pos, af, g⟩ :: rest) k ρ ds w := by
  intro is his
  obtain ⟨i, is', rfl, ho, his'⟩ := is_cons his
  obtain ⟨m, h1, h2⟩ := h is' his'
  refine ⟨m, .head (step_lone_go ?_) h1, h2⟩
  rw [stepGR_op ho (by rw [wanted_gOk]; exact hg), show (frameD f).roundOf = none from rfl, Oper.semAt_none, mkA_eval]
  have hr : (execOp (ev n ρ) ⟨some d, .call ⟨.builtin .recover, #[], ts⟩, ty, pos, af, g⟩).run P w = .ok .recover w := by
    simp [execOp, resolve, invoke, builtin]
  have e2 := finish_mkA (b := frameD f) (n := n) (all := all) (k := k) (ρ := ρ) (ds := ds) (i := i) (is' := is') ho .nilIface
  simp only [updO] at e2
  rw [← e2]
  simp [stepG.apply, hr]
  rfl
end
end Go.Vk

/- The proof engine, part 29: parts of arrays, nil maps, interfaces, read-only resources, resources inside a pack. Generic over the program. -/
namespace Go.Vk
open Go
set_option linter.unusedSectionVars false
set_option linter.unusedVariables false

theorem he_le {w w' : World} {b : Nat} {o : Obj} (h : w.heap[b]? = some o) (hk : Le w w') : w'.heap[b]? = some o :=
  (hk.block b (Array.getElem?_eq_some_iff.1 h).1 id).trans h

/-- A resource that is read. -/
structure RO (r : Rsc) (w : World) : Prop where
  ok : r.ok w
  bd : ∀ b, r.fp b → b < w.heap.size
theorem RO.le {r : Rsc} {w w' : World} (h : RO r w) (hk : Le w w') : RO r w' :=
  ⟨r.st (fun b hb => hk.block b (h.bd b hb) id) h.ok, fun b hb => Nat.lt_of_lt_of_le (h.bd b hb) hk.size⟩
section
variable {X : Nat → Prop} {w0 w w' : World} {L M : List Rsc} {r r' s : Rsc}
theorem Own.ro (S : Own X w0 w L) (k : Nat) (hk : L[k]? = some r) : RO r w := ⟨S.at k hk, fun b hb => (S.bd k r hk b hb).1⟩
theorem RO.mem (h : RO (pack M) w) (hr : r ∈ M) : RO r w := ⟨h.ok.1 r hr, fun b hb => h.bd b ⟨r, hr, hb⟩⟩
theorem RO.at (h : RO (pack M) w) (k : Nat) (hk : M[k]? = some r) : RO r w := h.mem (List.mem_of_getElem? hk)

/-- Of a pack resource i becomes another one. -/
theorem Own.turnIn {Y : Nat → Prop} (h : Own X w0 w L) (k : Nat) (hk : L[k]? = some (Vk.pack M)) (i : Nat) (hi : M[i]? = some r) (hy : Keep Y w w') (hY : ∀ b, b < w.heap.size → Y b → r.fp b) (hn : r'.ok w')
    (hfp : ∀ b, r'.fp b → r.fp b ∨ (w.heap.size ≤ b ∧ b < w'.heap.size)) : Own X w0 w' (L.set k (Vk.pack (M.set i r'))) := by
  have hP := h.at k hk
  have hb := fun b hb => (h.bd k _ hk b hb).1
  have hrm : r ∈ M := List.mem_of_getElem? hi
  have hii : i < M.length := (List.getElem?_eq_some_iff.1 hi).1
  have hset : ∀ {j s}, (M.set i r')[j]? = some s → (j = i ∧ s = r') ∨ (j ≠ i ∧ M[j]? = some s) := by
    intro j s hs
    by_cases e : j = i
    · subst e; left
      rw [List.getElem?_set_self hii] at hs
      exact ⟨rfl, (Option.some.inj hs).symm⟩
    · right; rw [List.getElem?_set_ne (Ne.symm e)] at hs; exact ⟨e, hs⟩
  refine h.turn k hk hy (fun b hb' hyb => ⟨r, hrm, hY b hb' hyb⟩) ⟨fun s hs => ?_, fun a c s t hs ht hne b hb1 hb2 => ?_⟩ fun b hb1 => ?_
  · obtain ⟨j, hj⟩ := List.getElem?_of_mem hs
    rcases hset hj with ⟨_, rfl⟩ | ⟨e, hj⟩
    · exact hn
    · refine s.st (fun b hbs => hy.block b (hb b ⟨s, List.mem_of_getElem? hj, hbs⟩) fun hyb => ?_) (hP.1 s (List.mem_of_getElem? hj))
      exact hP.2 j i s r hj hi e b hbs (hY b (hb b ⟨s, List.mem_of_getElem? hj, hbs⟩) hyb)
  · rcases hset hs with ⟨e1, q1⟩ | ⟨e1, hs⟩
    · rcases hset ht with ⟨e2, _⟩ | ⟨e2, ht⟩
      · omega
      · rw [q1] at hb1
        rcases hfp b hb1 with g | ⟨g, _⟩
        · exact hP.2 i c r t hi ht (by omega) b g hb2
        · have := hb b ⟨t, List.mem_of_getElem? ht, hb2⟩; omega
    · rcases hset ht with ⟨e2, q2⟩ | ⟨e2, ht⟩
      · rw [q2] at hb2
        rcases hfp b hb2 with g | ⟨g, _⟩
        · exact hP.2 a i s r hs hi e1 b hb1 g
        · have := hb b ⟨s, List.mem_of_getElem? hs, hb1⟩; omega
      · exact hP.2 a c s t hs ht hne b hb1 hb2
  · obtain ⟨s, hs, hb1⟩ := hb1
    obtain ⟨j, hj⟩ := List.getElem?_of_mem hs
    rcases hset hj with ⟨_, rfl⟩ | ⟨_, hj⟩
    · exact (hfp b hb1).imp (fun g => ⟨r, hrm, g⟩) id
    · exact .inl ⟨s, List.mem_of_getElem? hj, hb1⟩
/-- A pack is read as another one with the same blocks. -/
theorem Own.setIn (h : Own X w0 w L) (k : Nat) (hk : L[k]? = some (Vk.pack M)) (i : Nat) (hi : M[i]? = some r) (hn : r'.ok w) (hfp : ∀ b, r'.fp b → r.fp b) : Own X w0 w (L.set k (Vk.pack (M.set i r'))) :=
  h.turnIn (Y := nob) k hk i hi (Le.refl w) (fun _ _ h => h.elim) hn fun b hb => .inl (hfp b hb)
/-- A new resource joins a pack. -/
theorem Own.into {A : List Rsc} (S : Own X w0 w (A ++ [Vk.pack M, r])) : Own X w0 w (A ++ [Vk.pack (M ++ [r])]) := by
  have hr : (A ++ [Vk.pack M, r])[A.length + 1]? = some r := by rw [List.getElem?_append_right (by omega)]; simp
  have hp : (A ++ [Vk.pack M, r])[A.length]? = some (Vk.pack M) := by simp
  have hA : ∀ {k : Nat} {s : Rsc}, k < A.length → A[k]? = some s → (A ++ [Vk.pack M, r])[k]? = some s := fun hk h => by rw [List.getElem?_append_left hk]; exact h
  have hP := S.at _ hp
  have hR := S.at _ hr
  have hmem : ∀ s ∈ M ++ [r], ∀ b, s.fp b → (Vk.pack M).fp b ∨ r.fp b := fun s hs b hb => by
    rcases List.mem_append.1 hs with h | h
    · exact .inl ⟨s, h, hb⟩
    · simp at h; subst h; exact .inr hb
  refine ⟨S.keep, fun k s hs => ?_, fun k s hs b hb => ?_, fun j k s t hs ht hne b hb1 hb2 => ?_⟩
  · rcases getElem?_snoc hs with ⟨hk, hs⟩ | ⟨_, rfl⟩
    · exact S.ok k s (hA hk hs)
    · refine ⟨fun s hs => ?_, fun j k s t hs ht hne b hb1 hb2 => ?_⟩
      · rcases List.mem_append.1 hs with h | h
        · exact hP.1 s h
        · simp at h; subst h; exact hR
      · rcases getElem?_snoc hs with ⟨_, hs⟩ | ⟨e1, rfl⟩
        · rcases getElem?_snoc ht with ⟨_, ht⟩ | ⟨e2, rfl⟩
          · exact hP.2 j k s t hs ht hne b hb1 hb2
          · exact S.dj _ _ _ _ hp hr (by omega) b ⟨s, List.mem_of_getElem? hs, hb1⟩ hb2
        · rcases getElem?_snoc ht with ⟨_, ht⟩ | ⟨e2, rfl⟩
          · exact S.dj _ _ _ _ hp hr (by omega) b ⟨t, List.mem_of_getElem? ht, hb2⟩ hb1
          · omega
  · rcases getElem?_snoc hs with ⟨hk, hs⟩ | ⟨_, rfl⟩
    · exact S.bd k s (hA hk hs) b hb
    · obtain ⟨s, hs, hb⟩ := hb
      rcases hmem s hs b hb with h | h
      · exact S.bd _ _ hp b h
      · exact S.bd _ _ hr b h
  · rcases getElem?_snoc hs with ⟨hj, hs⟩ | ⟨e1, rfl⟩
    · rcases getElem?_snoc ht with ⟨hk, ht⟩ | ⟨e2, rfl⟩
      · exact S.dj j k s t (hA hj hs) (hA hk ht) hne b hb1 hb2
      · obtain ⟨u, hu, hb2⟩ := hb2
        rcases hmem u hu b hb2 with h | h
        · exact S.dj _ _ _ _ (hA hj hs) hp (by omega) b hb1 h
        · exact S.dj _ _ _ _ (hA hj hs) hr (by omega) b hb1 h
    · rcases getElem?_snoc ht with ⟨hk, ht⟩ | ⟨e2, rfl⟩
      · obtain ⟨u, hu, hb1⟩ := hb1
        rcases hmem u hu b hb1 with h | h
        · exact S.dj _ _ _ _ (hA hk ht) hp (by omega) b hb2 h
        · exact S.dj _ _ _ _ (hA hk ht) hr (by omega) b hb2 h
      · omega
theorem mapr_fp {κ α : Type} {key : κ → Value} {val : α → Value} {b c : Nat} {f : κ → Option α} (h : (mapr key val b f).fp c) : c = b := h
end

/-! ### operations -/
section
variable {P : Program} {E : Operand → Value} {w : World} {ty T kt et : TypeId} {x y : Operand} {v z : Value}
/-- A part of an array's value. -/
theorem x_part {k : IntKind} {i : Int} {n : Nat} {e : TypeId} {cs : Array Value} (hx : E x = .agg cs) (hy : E y = .int k i) (hu : ∀ w, (underlying T).run P w = .ok (.array n e) w) (hs : ∀ w, (sizeOf e).run P w = .ok 1 w) (ha : ∀ w, (isAgg e).run P w = .ok false w)
    (hb : 0 ≤ i ∧ i < n) (hv : cs[i.toNat]? = some v) : X P E (.index T x y) ty w v w := by
  refine ⟨nofun, fun _ _ _ _ => ?_⟩
  simp [execOp, hx, hy, Instr.index, asIntOf, hu, hs, hb.1, hb.2, part, ha, hv, go_sem]
theorem run_equal_map {o : Option Nat} (hu : ∀ w, (underlying T).run P w = .ok (.map kt et) w) : (Op.equal T (.map o) (.map none)).run P w = .ok o.isNone w := by
  unfold Op.equal
  obtain ⟨m, hm⟩ : ∃ m, Op.maxDepth = m + 1 := ⟨9999, rfl⟩
  rw [hm]
  simp only [Op.equalIn, Sem.run_bind, hu, Result.andThen_ok]
  cases o <;> rfl
/-- Is a map nil? -/
theorem x_nilmap {o : Option Nat} {t : Bool} {T' : TypeId} (hu : ∀ w, (underlying T).run P w = .ok (.map kt et) w) (hx : E x = .map o) (hy : E y = .map none) (ht : o.isNone = t) : Go.Vk.X P E (.binOp .eql T x y T') ty w (.bool t) w :=
  ⟨nofun, fun _ _ _ _ => by
    subst ht
    have h := run_equal_map (P := P) (w := w) (o := o) hu
    simp only [execOp, hx, hy, Sem.run_bind]
    rw [show (eqGuard .eql T x y (.map o) (.map none)).run P w = .ok () w from by cases o <;> rfl]
    simp only [Result.andThen_ok, binOp, Sem.run_bind, h, Sem.run_pure]⟩
def isNilI : Value → Bool
  | .nilIface => true
  | _ => false
theorem run_equal_iface {ms : Array (String × TypeId)} (hu : ∀ w, (underlying T).run P w = .ok (.interface ms) w) (hv : v = .nilIface ∨ ∃ t u, v = .iface t u) : (Op.equal T v .nilIface).run P w = .ok (isNilI v) w := by
  unfold Op.equal
  obtain ⟨m, hm⟩ : ∃ m, Op.maxDepth = m + 1 := ⟨9999, rfl⟩
  rw [hm]
  rcases hv with rfl | ⟨t, u, rfl⟩ <;> simp only [Op.equalIn, Sem.run_bind, hu, Result.andThen_ok] <;> rfl
/-- An interface's value against nil. -/
theorem x_niliface {t : Bool} {ms : Array (String × TypeId)} {T' : TypeId} (hu : ∀ w, (underlying T).run P w = .ok (.interface ms) w) (hx : E x = v) (hy : E (.const .nilIface) = .nilIface) (hv : v = .nilIface ∨ ∃ t u, v = .iface t u) (ht : (isNilI v) = t) :
    Go.Vk.X P E (.binOp .eql T x (.const .nilIface) T') ty w (.bool t) w :=
  ⟨nofun, fun _ _ _ _ => by
    subst ht
    have h := run_equal_iface (P := P) (w := w) hu hv
    simp only [execOp, hx, hy, Sem.run_bind]
    rw [show (eqGuard .eql T x (.const .nilIface) v .nilIface).run P w = .ok () w from by rcases hv with rfl | ⟨t, u, rfl⟩ <;> simp [eqGuard, go_sem]]
    have hb : binOp .eql T v .nilIface = (do pure (.bool (← Op.equal T v .nilIface))) := by rcases hv with rfl | ⟨t, u, rfl⟩ <;> rfl
    simp only [Result.andThen_ok, hb, Sem.run_bind, h, Sem.run_pure]⟩
theorem x_max {k : IntKind} {a c : Int} {ts : Array TypeId} (hx : E x = .int k a) (hy : E y = .int k c) : Go.Vk.X P E (.call ⟨.builtin .max, #[x, y], ts⟩) ty w (.int k (max a c)) w :=
  ⟨nofun, fun _ _ _ _ => by
    have h : max a c = if a < c then c else a := by simp only [Int.max_def]; split <;> split <;> omega
    simp only [execOp, resolve, Sem.run_bind, Sem.run_pure, Result.andThen_ok, invoke, builtin, List.map_toArray, List.map_cons, List.map_nil, hx, hy, Builtin.max_, List.foldlM_cons, List.foldlM_nil]
    simp [Builtin.max2, h, go_sem]⟩
/-- A field of a struct's value. -/
theorem x_fieldv {i : Nat} {fs : Array Field} {f : Field} {cs : Array Value} (hx : E x = .agg cs) (hu : ∀ w, (underlying T).run P w = .ok (.struct fs) w) (hf : fs[i]? = some f) (ha : ∀ w, (isAgg f.type).run P w = .ok false w)
    (hv : cs[f.offset]? = some v) : Go.Vk.X P E (.field T x i) ty w v w :=
  ⟨nofun, fun _ _ _ _ => by simp [execOp, hx, Instr.field, asAgg, hu, hf, part, ha, hv, go_sem]⟩
theorem x_mkiface {d : TypeDesc} (hx : E x = v) (hu : ∀ w, (underlying T).run P w = .ok d w) (hd : (match d with | .interface _ => false | _ => true) = true) : Go.Vk.X P E (.makeInterface T x) ty w (.iface T v) w :=
  ⟨nofun, fun _ _ _ _ => by
    cases d <;> first | (simp at hd; done) | simp [execOp, hx, Instr.makeInterface, hu, go_sem]⟩
/-- The value is of the asserted type. -/
theorem x_assert {A : TypeId} {d : TypeDesc} (hx : E x = .iface A v) (hu : ∀ w, (underlying A).run P w = .ok d w) (hd : (match d with | .interface _ => false | _ => true) = true) : Go.Vk.X P E (.typeAssert x T A true) ty w (.tuple #[v, .bool true]) w :=
  ⟨nofun, fun _ _ _ _ => by
    cases d <;> first | (simp at hd; done) | simp [execOp, hx, Instr.typeAssert, hu, go_sem]⟩
end

section
variable {P : Program} {b : Frame} {cs : List Frame} {fin : Machine → Prop} {n : Nat} {all : Array Oper} {rest : List Oper} {k : List Item} {ρ : Env} {ds : List Deferred} {w w' : World}
  {d : Nat} {ty : TypeId} {pos : String} {af : Array Edge} {g : Option (Nat × Bool)} {T kt et : TypeId} {x y z : Operand} {dk : TypeDesc}
theorem run_range0 {E : Operand → Value} (hu : ∀ w, (underlying T).run P w = .ok (.map kt et) w) (hx : E x = .map none) :
    X P E (.range T x) ty w (.pointer (some ⟨w.heap.size, 0, none⟩)) (w.alloc (.mapIter none 0 #[] 0)) :=
  ⟨nofun, fun _ _ _ _ => by simp [execOp, Instr.range, hx, Sem.run_bind, hu, Result.andThen]⟩
/-- A range over a nil map. -/
theorem l_range0 {X : Nat → Prop} {w0 : World} {L : List Rsc} (S : Own X w0 w L) (hg : gOk all n ρ g = true) (hu : ∀ w, (underlying T).run P w = .ok (.map kt et) w) (hx : ev n ρ x = .map none)
    (h : ∀ bi w', Own X w0 w' (L ++ [Vk.obj bi (.mapIter none 0 #[] 0)]) → Le w w' → RunL P b cs fin n all rest k (upd ρ d (.pointer (some ⟨bi, 0, none⟩))) ds w') :
    RunL P b cs fin n all (⟨some d, .range T x, ty, pos, af, g⟩ :: rest) k ρ ds w :=
  l_x hg (run_range0 hu hx) (h _ _ (S.allocObj _) (Le.alloc_obj w _))
theorem x_next0 {E : Operand → Value} {bi : Nat} (hx : E x = .pointer (some ⟨bi, 0, none⟩)) (hi : w.heap[bi]? = some (.mapIter none 0 #[] 0)) : X P E (.next x false) ty w (.tuple #[.bool false]) w :=
  ⟨nofun, fun _ _ _ _ => by simp only [execOp, hx, Instr.next, getObj, Sem.run_bind, Sem.run, hi, Result.andThen]; rfl⟩
/-- The whole of a slice's head, with no more behind it. -/
theorem x_headm {α : Type} {E : Elt α} {l : List α} {ev : Operand → Value} {v : Value} {q : Int} {z z' : Operand} (hr : Rd E w v l) (hx : ev x = v) (hz : ev z = .int .i64 q) (hz' : ev z' = .int .i64 q) (hu : ∀ w, (underlying T).run P w = .ok (.slice E.T) w) (hs : ∀ w, (sizeOf E.T).run P w = .ok E.sz w) (hq : 0 ≤ q ∧ q ≤ l.length) :
    ∃ v', Rd E w v' (l.take q.toNat) ∧ ∀ w1, X P ev (.slice T x none (some z) (some z')) ty w1 v' w1 := by
  obtain ⟨a, cap, rfl, hc, hrow⟩ := hr
  have hlen : (l.take q.toNat).length = q.toNat := by rw [List.length_take]; omega
  refine ⟨.slice (if q.toNat = 0 then a else a.map (·.add (0 * E.sz))) q.toNat q.toNat, ⟨_, _, by rw [hlen], by rw [hlen]; exact Nat.le_refl _, fun i e hi => ?_⟩, fun w1 => ⟨nofun, fun _ _ _ _ => ?_⟩⟩
  · rw [List.getElem?_take] at hi
    split at hi
    · obtain ⟨b', o', rfl, hr⟩ := hrow i e hi
      refine ⟨b', o', ?_, hr⟩
      split
      · rfl
      · simp [addr_add]
    · cases hi
  · have hB : ∀ (u : Value) (m : Int) (y : Nat) (cd : BoundsCode) (w : World), u = .int .i64 m → 0 ≤ m ∧ m ≤ y → (Instr.sliceBound u y cd).run P w = .ok m.toNat w := by
      intro u m y cd w hz hm
      subst hz
      simp only [Instr.sliceBound, asIntOf, Sem.run_bind, Sem.run_pure, Result.andThen_ok]
      rw [if_pos hm]
      rfl
    have hsb : ∀ w, (Instr.sliceBounds true l.length cap none (some (ev z)) (some (ev z'))).run P w = .ok (0, q.toNat, q.toNat) w := by
      intro w
      unfold Instr.sliceBounds
      simp only [Sem.run_bind, Sem.run_pure, Result.andThen_ok, if_true, hB (ev z') q cap .slice3Acap w hz' (by omega), hB (ev z) q q.toNat .slice3B w hz (by omega)]
    simp only [execOp, Instr.sliceAt, Option.map_none, Option.map_some, hx, Sem.run_bind, hu, Result.andThen_ok, Instr.slice, hsb, hs, Sem.run_pure, Nat.sub_zero]
theorem l_headm {α : Type} {E : Elt α} {l : List α} {v : Value} {q : Int} {z' : Operand} (hr : Rd E w v l) (hg : gOk all n ρ g = true) (hx : ev n ρ x = v) (hz : ev n ρ z = .int .i64 q) (hz' : ev n ρ z' = .int .i64 q)
    (hu : ∀ w, (underlying T).run P w = .ok (.slice E.T) w) (hs : ∀ w, (sizeOf E.T).run P w = .ok E.sz w) (hq : 0 ≤ q ∧ q ≤ l.length)
    (h : ∀ v', Rd E w v' (l.take q.toNat) → RunL P b cs fin n all rest k (upd ρ d v') ds w) :
    RunL P b cs fin n all (⟨some d, .slice T x none (some z) (some z'), ty, pos, af, g⟩ :: rest) k ρ ds w := by
  obtain ⟨v', h1, h2⟩ := x_headm (P := P) (ty := ty) hr hx hz hz' hu hs hq
  exact l_x hg (h2 w) (h v' h1)
end

/-! ### what has come of a map -/
structure Vis {κ α : Type} (f : κ → Option α) (vis : List (κ × α)) : Prop where
  nd : (vis.map (·.1)).Nodup
  of : ∀ p ∈ vis, f p.1 = some p.2
section
variable {κ α : Type} {f : κ → Option α} {vis M : List (κ × α)} {c : κ} {a : α}
theorem Vis.nil : Vis f ([] : List (κ × α)) := ⟨by simp, fun _ h => by cases h⟩
theorem Vis.step (h : Vis f vis) (hf : f c = some a) (hn : ∀ p ∈ vis, p.1 ≠ c) : Vis f (vis ++ [(c, a)]) := by
  refine ⟨?_, fun p hp => ?_⟩
  · rw [List.map_append]
    refine List.nodup_append.2 ⟨h.nd, by simp, fun x hx y hy => ?_⟩
    obtain ⟨p, hp, rfl⟩ := List.mem_map.1 hx
    simp at hy; subst hy
    exact hn p hp
  · rcases List.mem_append.1 hp with hp | hp
    · exact h.of p hp
    · simp at hp; subst hp; exact hf
theorem nodup_of_keys {l : List (κ × α)} (h : (l.map (·.1)).Nodup) : l.Nodup := by
  induction l with
  | nil => simp
  | cons p l ih =>
    rw [List.map_cons, List.nodup_cons] at h
    exact List.nodup_cons.2 ⟨fun hm => h.1 (List.mem_map.2 ⟨p, hm, rfl⟩), ih h.2⟩
theorem perm_of_mem [BEq α] [LawfulBEq α] : ∀ {l m : List α}, l.Nodup → m.Nodup → (∀ x, x ∈ l ↔ x ∈ m) → l.Perm m := by
  intro l
  induction l with
  | nil => intro m _ _ h; cases m with
    | nil => exact .nil
    | cons y m => exact absurd ((h y).2 (List.mem_cons_self ..)) (by simp)
  | cons x l ih =>
    intro m hl hm h
    rw [List.nodup_cons] at hl
    have hx : x ∈ m := (h x).1 (List.mem_cons_self ..)
    have hp := List.perm_cons_erase hx
    refine (List.Perm.cons x (ih hl.2 (hm.erase x) fun y => ?_)).trans hp.symm
    constructor
    · intro hy
      have hne : y ≠ x := fun e => hl.1 (e ▸ hy)
      exact (List.mem_erase_of_ne hne).2 ((h y).1 (List.mem_cons_of_mem _ hy))
    · intro hy
      have hne : y ≠ x := fun e => by subst e; exact (hm.not_mem_erase) hy
      rcases List.mem_cons.1 ((h y).2 ((List.mem_erase_of_ne hne).1 hy)) with e | e
      · exact absurd e hne
      · exact e
/-- Two lists of all entries. -/
theorem Vis.perm [DecidableEq κ] [DecidableEq α] (h : Vis f vis) (hall : ∀ k a, f k = some a → (k, a) ∈ vis) (h' : Vis f M) (hall' : ∀ k a, f k = some a → (k, a) ∈ M) : vis.Perm M :=
  perm_of_mem (nodup_of_keys h.nd) (nodup_of_keys h'.nd) fun p => ⟨fun hp => hall' _ _ (h.of p hp), fun hp => hall _ _ (h'.of p hp)⟩
theorem nodup_le {α : Type} [BEq α] [LawfulBEq α] : ∀ {l m : List α}, l.Nodup → (∀ x ∈ l, x ∈ m) → l.length ≤ m.length := by
  intro l
  induction l with
  | nil => intro m _ _; simp
  | cons x l ih =>
    intro m hl h
    rw [List.nodup_cons] at hl
    have hx : x ∈ m := h x (List.mem_cons_self ..)
    have := ih (m := m.erase x) hl.2 fun y hy => (List.mem_erase_of_ne (fun (e : y = x) => hl.1 (by rw [← e]; exact hy))).2 (h y (List.mem_cons_of_mem _ hy))
    have h2 := List.length_erase_of_mem hx
    have h3 := List.length_pos_of_mem hx
    simp only [List.length_cons]
    omega
theorem itr_len {key : κ → Value} {val : α → Value} {b m : Nat} {es : Array MapEntry} {clock : Nat} {w : World} (h : (itr key val b m es clock vis).ok w) : vis.length ≤ es.size := by
  obtain ⟨vs, _, hv⟩ := h
  have e : vs.length = vis.length := by have := congrArg List.length hv.eq; simpa using this
  have h1 : (vs.map (·.born)).length ≤ (es.toList.map (·.born)).length := nodup_le hv.nd fun x hx => by
    obtain ⟨y, hy, rfl⟩ := List.mem_map.1 hx
    exact List.mem_map.2 ⟨y, hv.sub y hy, rfl⟩
  simp at h1
  omega
end
section
variable {P : Program} {b : Frame} {cs : List Frame} {fin : Machine → Prop} {n : Nat} {all : Array Oper} {rest : List Oper} {k : List Item} {ρ : Env} {ds : List Deferred} {w w' : World}
  {d' : Option Nat} {ty : TypeId} {pos : String} {af : Array Edge} {g : Option (Nat × Bool)} {v : Value}
/-- A call that may panic: by its contract. -/
theorem l_callP {F : Operand} {as : List Operand} {ts : Array TypeId} {f : FuncId} (first cap vals : List Value) {R Q : Value → World → Prop} (hg : gOk all n ρ g = true)
    (hF : ev n ρ F = .func (.func f) first.toArray cap.toArray) (he : ∀ args w, (callFunc f args).run P w = .ok (.enter f args) w) (ha : first ++ as.map (ev n ρ) ++ cap = vals)
    (hc : Cp P f vals.toArray w R Q) (h : ∀ v w', R v w' → RunL P b cs fin n all rest k (updO d' v ρ) ds w') (hp : ∀ v w' k', Q v w' → LeaveU P b cs fin n k' ρ ds (.panicking [pentry v]) w') :
    RunL P b cs fin n all (⟨d', .call ⟨.value F, as.toArray, ts⟩, ty, pos, af, g⟩ :: rest) k ρ ds w :=
  l_enterP hg nofun (run_call hF he ha) hc h hp
end
section
variable {P : Program} {b : Frame} {cs : List Frame} {fin : Machine → Prop} {n : Nat} {k : List Item} {ρ : Env} {ds : List Deferred} {w : World} {X : Nat → Prop} {w0 : World} {L : List Rsc}
/-- Behind this point only the named slots are known, and what is owned is as it was: what follows is proved once. -/
theorem r_cutS (S : Own X w0 w L) (slots : List (Nat × Value)) (p : Prop) (hK : ∀ ρ w', p → Own X w0 w' L → Run P b cs fin n k (upds ρ slots) ds w') {x : Item}
    (h : (∀ ρ w', Agree ρ slots → p → Own X w0 w' L → Run P b cs fin n k ρ ds w') → Run P b cs fin n (x :: k) ρ ds w) : Run P b cs fin n (x :: k) ρ ds w :=
  h fun ρ w' ha hp hS => by have := hK ρ w' hp hS; rwa [upds_agree ha] at this
end
section
variable {P : Program} {b : Frame} {cs : List Frame} {fin : Machine → Prop} {n : Nat} {k : List Item} {ρ : Env} {ds : List Deferred} {w : World} {ops : Array Oper} {m : Nat} {Y : Nat → Prop} {listed listed' : Array Bool}
  {d : Nat} {ty : TypeId} {pos : String} {af : Array Edge} {g : Option (Nat × Bool)} {v : Value} {T : TypeId} {x z z' : Operand} {α : Type} {E : Elt α} {l : List α} {q : Int}
theorem e_headm (i : Nat) (hok : drawOk ops m = true) (ho : ops[i]? = some ⟨some d, .slice T x none (some z) (some z'), ty, pos, af, g⟩) (him : Nat.blt i m = true) (hr : rdy ops listed i = true)
    (hl : listed.setIfInBounds i true = listed') (hg : gOk ops n ρ g = true) (hv : Rd E w v l) (hx : ev n ρ x = v) (hz : ev n ρ z = .int .i64 q) (hz' : ev n ρ z' = .int .i64 q)
    (hu : ∀ w, (underlying T).run P w = .ok (.slice E.T) w) (hs : ∀ w, (sizeOf E.T).run P w = .ok E.sz w) (hq : 0 ≤ q ∧ q ≤ l.length)
    (h : ∀ v', Rd E w v' (l.take q.toNat) → RE P b cs fin n ops m (Keep Y) k ds listed' (upd ρ d v') w) : RE P b cs fin n ops m (Keep Y) k ds listed ρ w := by
  obtain ⟨v', h1, h2⟩ := x_headm (P := P) (ty := ty) hv hx hz hz' hu hs hq
  exact e_exact i _ hok ho him hr hl (ex_x hg fun w1 _ => h2 w1) (h v' h1)
end
section
variable {P : Program} {b : Frame} {cs : List Frame} {fin : Machine → Prop} {n : Nat} {all : Array Oper} {rest : List Oper} {k : List Item} {ρ : Env} {ds : List Deferred} {w : World}
  {d : Nat} {ty : TypeId} {pos : String} {af : Array Edge} {g : Option (Nat × Bool)} {v : Value} {T T' e : TypeId} {x y : Operand} {α : Type} {E : Elt α} {l : List α}
theorem run_equal_slice {p : Option Addr} {m c : Nat} (hu : ∀ w, (underlying T).run P w = .ok (.slice e) w) : (Op.equal T (.slice p m c) (.slice none 0 0)).run P w = .ok p.isNone w := by
  unfold Op.equal
  obtain ⟨q, hq⟩ : ∃ q, Op.maxDepth = q + 1 := ⟨9999, rfl⟩
  rw [hq]
  simp only [Op.equalIn, Sem.run_bind, hu, Result.andThen_ok]
  cases p <;> rfl
/-- Is a slice nil? Then it has nothing. -/
theorem l_nilsl (hr : Rd E w v l) (hg : gOk all n ρ g = true) (hx : ev n ρ x = v) (hy : ev n ρ y = .slice none 0 0) (hu : ∀ w, (underlying T).run P w = .ok (.slice e) w)
    (h : ∀ t : Bool, (t = true → l = []) → RunL P b cs fin n all rest k (upd ρ d (.bool t)) ds w) : RunL P b cs fin n all (⟨some d, .binOp .eql T x y T', ty, pos, af, g⟩ :: rest) k ρ ds w := by
  obtain ⟨p, cap, rfl, hc, hrow⟩ := hr
  refine l_x hg (v := .bool p.isNone) ⟨nofun, fun _ _ _ _ => ?_⟩ (h _ fun ht => ?_)
  · have he := run_equal_slice (P := P) (w := w) (p := p) (m := l.length) (c := cap) hu
    simp only [execOp, hx, hy, Sem.run_bind]
    rw [show (eqGuard .eql T x y (.slice p l.length cap) (.slice none 0 0)).run P w = .ok () w from rfl]
    simp only [Result.andThen_ok, binOp, Sem.run_bind, he, Sem.run_pure]
  · cases l with
    | nil => rfl
    | cons a l =>
      obtain ⟨b', o', hp, _⟩ := hrow 0 a rfl
      rw [hp] at ht; cases ht
end
end Go.Vk

/- Deeds in memory: how they lie there; what has been done, as a resource. Generic over the program. -/
namespace Go.Vk.Deed
open Go Go.Vk
set_option linter.unusedSectionVars false

/-- A deed as it lies: its numbers and the headers of its lists. -/
abbrev Rw := D × Hd × Hd
abbrev i64 (x : Int) : Value := .int .i64 x
def encD (a : Rw) : List Value := [i64 a.1.id, i64 a.1.day, i64 a.1.known, .int .u8 a.1.kind, i64 a.1.frm, i64 a.1.to, i64 a.1.parts, i64 a.1.stop, i64 a.1.of, hv a.2.1, hv a.2.2]
def deedE (T : TypeId) : Elt Rw where
  T := T
  sz := 11
  enc := encD
  zero := [i64 0, i64 0, i64 0, .int .u8 0, i64 0, i64 0, i64 0, i64 0, i64 0, .slice none 0 0, .slice none 0 0]
  len _ := rfl
  zlen := rfl
  one a x h := by simp [encD] at h; rcases h with h | h | h | h | h | h | h | h | h | h | h <;> subst h <;> rfl
  pos := by decide
def encLs (x : Ls) : List Value := [i64 x.deed, i64 x.frm, i64 x.to, i64 x.parts, i64 x.stop, i64 x.day]
def lsE (T : TypeId) : Elt Ls where
  T := T
  sz := 6
  enc := encLs
  zero := [i64 0, i64 0, i64 0, i64 0, i64 0, i64 0]
  len _ := rfl
  zlen := rfl
  one a x h := by simp [encLs] at h; rcases h with h | h | h | h | h | h <;> subst h <;> rfl
  pos := by decide
def encLz (x : Lz) : List Value := [i64 x.deed, i64 x.frm, i64 x.to, i64 x.parts, i64 x.stop]
def lzE (T : TypeId) : Elt Lz where
  T := T
  sz := 5
  enc := encLz
  zero := [i64 0, i64 0, i64 0, i64 0, i64 0]
  len _ := rfl
  zlen := rfl
  one a x h := by simp [encLz] at h; rcases h with h | h | h | h | h <;> subst h <;> rfl
  pos := by decide
def encPl (x : Pl) : List Value := [i64 x.deed, i64 x.frm, i64 x.to, i64 x.parts]
def plE (T : TypeId) : Elt Pl where
  T := T
  sz := 4
  enc := encPl
  zero := [i64 0, i64 0, i64 0, i64 0]
  len _ := rfl
  zlen := rfl
  one a x h := by simp [encPl] at h; rcases h with h | h | h | h <;> subst h <;> rfl
  pos := by decide
def encAc (x : Acc) : List Value := [i64 x.owner, i64 x.holds, i64 x.pledged, i64 x.out, i64 x.inn]
def acE (T : TypeId) : Elt Acc where
  T := T
  sz := 5
  enc := encAc
  zero := [i64 0, i64 0, i64 0, i64 0, i64 0]
  len _ := rfl
  zlen := rfl
  one a x h := by simp [encAc] at h; rcases h with h | h | h | h | h <;> subst h <;> rfl
  pos := by decide

/-- A deed's lists read as they should. -/
structure SubR (TI : TypeId) (w : World) (a : Rw) : Prop where
  h : Rd (intE TI) w (hv a.2.1) a.1.heirs
  s : Rd (intE TI) w (hv a.2.2) a.1.shares
  hm : a.1.heirs.length ≤ 9223372036854775807
  sm : a.1.shares.length ≤ 9223372036854775807
/-- A slice reads as these deeds. -/
structure DsR (TD TI : TypeId) (w : World) (v : Value) (rs : List Rw) : Prop where
  rd : Rd (deedE TD) w v rs
  sub : ∀ a ∈ rs, SubR TI w a
  lm : rs.length ≤ 9223372036854775807
def dl (rs : List Rw) : List D := rs.map (·.1)
section
variable {TD TI : TypeId} {w w' : World} {v : Value} {rs : List Rw} {a : Rw}
theorem SubR.le (h : SubR TI w a) (hk : Le w w') : SubR TI w' a := ⟨h.1.le hk, h.2.le hk, h.3, h.4⟩
theorem DsR.le (h : DsR TD TI w v rs) (hk : Le w w') : DsR TD TI w' v rs := ⟨h.rd.le hk, fun a ha => (h.sub a ha).le hk, h.lm⟩
theorem dl_len : (dl rs).length = rs.length := by simp [dl]
theorem dl_get {i : Nat} (h : rs[i]? = some a) : (dl rs)[i]? = some a.1 := by simp [dl, h]
theorem dl_take {i : Nat} : dl (rs.take i) = (dl rs).take i := by simp [dl, List.map_take]
end

theorem DsR.mem {TD TI : TypeId} {w w' : World} {v v' : Value} {rs rs' : List Rw} (h : DsR TD TI w v rs) (hk : Le w w') (h2 : Rd (deedE TD) w' v' rs') (hm : ∀ a ∈ rs', a ∈ rs) (hl : rs'.length ≤ 9223372036854775807) : DsR TD TI w' v' rs' :=
  ⟨h2, fun a ha => (h.sub a (hm a ha)).le hk, hl⟩
/-- The lists of deeds, in memory of one's own. -/
def dnest (TI : TypeId) (rs : List Rw) : List Rsc := rs.flatMap fun a => [vec (intE TI) (hv a.2.1) a.1.heirs, vec (intE TI) (hv a.2.2) a.1.shares]
theorem dnest_snoc {TI : TypeId} {rs : List Rw} {a : Rw} : dnest TI (rs ++ [a]) = dnest TI rs ++ [vec (intE TI) (hv a.2.1) a.1.heirs] ++ [vec (intE TI) (hv a.2.2) a.1.shares] := by simp [dnest]
theorem dnest_dsr {TD TI : TypeId} {w : World} {v : Value} {rs : List Rw} (h1 : (vec (deedE TD) v rs).ok w) (h2 : (pack (dnest TI rs)).ok w) (hh : ∀ a ∈ rs, a.1.heirs.length ≤ 9223372036854775807 ∧ a.1.shares.length ≤ 9223372036854775807) (hl : rs.length ≤ 9223372036854775807) : DsR TD TI w v rs :=
  ⟨vec_rd h1, fun a ha => ⟨vec_rd (h2.1 _ (List.mem_flatMap.2 ⟨a, ha, by simp⟩)), vec_rd (h2.1 _ (List.mem_flatMap.2 ⟨a, ha, by simp⟩)), (hh a ha).1, (hh a ha).2⟩, hl⟩

/-! ### what has been done, in memory -/
def plV (p : Pl) : Value := .agg (encPl p).toArray
def mV (m : Nat) : Value := .map (some m)
/-- The names of a roll's memory: its three maps, its two slices, of each owner the map of what they hold. -/
structure Nm where
  h : Nat
  p : Nat
  s : Nat
  lv : Value
  iv : Value
  ms : List (Int × Nat)
/-- The map of an owner. -/
def Nm.inn (n : Nm) (o : Int) : Option Nat := (n.ms.find? fun q => decide (q.1 = o)).map (·.2)
structure Tys where
  roll : TypeId
  lease : TypeId
  int : TypeId
/-- The cells of a roll. -/
def rollC (n : Nm) : List Value := [.map (some n.h), n.lv, .map (some n.p), n.iv, .map (some n.s)]
abbrev innR (n : Nm) (f : Int → Int → Option Int) : List Rsc := n.ms.map fun q => mapr kInt kInt q.2 (f q.1)
abbrev rollL (t : Tys) (b : Nat) (n : Nm) (hs : Int → Option Int) (ls : List Ls) (pf : Int → Option Pl) (is : List Int) (sf : Int → Int → Option Int) : List Rsc :=
  [blk b (rollC n) t.roll, mapr kInt kInt n.h hs, vec (lsE t.lease) n.lv ls, mapr kInt plV n.p pf, vec (intE t.int) n.iv is, mapr kInt mV n.s n.inn, pack (innR n sf)]
/-- What the maps say. -/
structure RollOk (n : Nm) (s : St) (hs : Int → Option Int) (pf : Int → Option Pl) (sf : Int → Int → Option Int) : Prop where
  h : ∀ o, (hs o).getD 0 = s.holds o
  own : ∀ o a, hs o = some a → 1 ≤ o ∧ o ≤ 40
  p : ∀ k, pf k = plOf s k
  s : ∀ o i, (sf o i).getD 0 = s.src o i
  ids : ∀ o i a, sf o i = some a → 1 ≤ i ∧ i ≤ 400
  none : ∀ o, n.inn o = none → ∀ i, sf o i = none
  nd : (n.ms.map (·.1)).Nodup
def rollF (t : Tys) (b : Nat) (n : Nm) : Nat → Prop := (pack (rollL t b n mnil [] mnil [] fun _ => mnil)).fp
theorem roll_fp {t : Tys} {b : Nat} {n : Nm} {hs : Int → Option Int} {ls : List Ls} {pf : Int → Option Pl} {is : List Int} {sf : Int → Int → Option Int} (c : Nat) : (pack (rollL t b n hs ls pf is sf)).fp c ↔ rollF t b n c := by
  simp only [rollF, pack, rollL, innR, List.mem_cons, List.not_mem_nil, or_false, exists_eq_or_imp, exists_eq_left, List.mem_map, blk, mapr, vec]
  constructor <;> rintro (h | h | h | h | h | h | ⟨r, ⟨q, hq, rfl⟩, h⟩)
  all_goals first
    | exact .inl h
    | exact .inr (.inl h)
    | exact .inr (.inr (.inl h))
    | exact .inr (.inr (.inr (.inl h)))
    | exact .inr (.inr (.inr (.inr (.inl h))))
    | exact .inr (.inr (.inr (.inr (.inr (.inl h)))))
    | exact .inr (.inr (.inr (.inr (.inr (.inr ⟨_, ⟨q, hq, rfl⟩, h⟩)))))
/-- What has been done. -/
def rollS (t : Tys) (b : Nat) (n : Nm) (s : St) : Rsc where
  fp := rollF t b n
  ok := fun w => ∃ hs pf sf, RollOk n s hs pf sf ∧ (pack (rollL t b n hs s.leases pf s.idle sf)).ok w
  st := by
    rintro w w' hk ⟨hs, pf, sf, h1, h2⟩
    exact ⟨hs, pf, sf, h1, (pack _).st (fun c hc => hk c ((roll_fp c).1 hc)) h2⟩
section
variable {t : Tys} {b : Nat} {n n' : Nm} {s s' : St} {X : Nat → Prop} {w0 w w' : World} {A : List Rsc} {hs : Int → Option Int} {pf : Int → Option Pl} {sf : Int → Int → Option Int} {ls : List Ls} {is : List Int}
theorem _root_.Go.Vk.Own.rollOpen (S : Own X w0 w (A ++ [rollS t b n s])) : ∃ hs pf sf, RollOk n s hs pf sf ∧ Own X w0 w (A ++ rollL t b n hs s.leases pf s.idle sf) := by
  have hr : (A ++ [rollS t b n s])[A.length]? = some (rollS t b n s) := by simp
  obtain ⟨hs, pf, sf, h1, h2⟩ := S.at _ hr
  refine ⟨hs, pf, sf, h1, ?_⟩
  have := S.as A.length hr (r' := pack (rollL t b n hs s.leases pf s.idle sf)) h2 fun c hc => (roll_fp c).1 hc
  rw [List.set_append_right _ _ (Nat.le_refl _), Nat.sub_self, List.set_cons_zero] at this
  exact this.unpack
theorem _root_.Go.Vk.Own.rollShut (S : Own X w0 w (A ++ rollL t b n hs s.leases pf s.idle sf)) (h : RollOk n s hs pf sf) : Own X w0 w (A ++ [rollS t b n s]) := by
  have S1 := S.pack
  have hr : (A ++ [pack (rollL t b n hs s.leases pf s.idle sf)])[A.length]? = some (pack (rollL t b n hs s.leases pf s.idle sf)) := by simp
  have := S1.as A.length hr (r' := rollS t b n s) ⟨hs, pf, sf, h, S1.at _ hr⟩ fun c hc => (roll_fp c).2 hc
  rwa [List.set_append_right _ _ (Nat.le_refl _), Nat.sub_self, List.set_cons_zero] at this
/-- A roll that is read. -/
structure RollRO (t : Tys) (b : Nat) (n : Nm) (s : St) (hs : Int → Option Int) (pf : Int → Option Pl) (sf : Int → Int → Option Int) (w : World) : Prop where
  ok : RollOk n s hs pf sf
  ro : RO (pack (rollL t b n hs s.leases pf s.idle sf)) w
theorem RollRO.of (h : RO (rollS t b n s) w) : ∃ hs pf sf, RollRO t b n s hs pf sf w := by
  obtain ⟨hs, pf, sf, h1, h2⟩ := h.ok
  exact ⟨hs, pf, sf, h1, h2, fun c hc => h.bd c ((roll_fp c).1 hc)⟩
theorem RollRO.le (h : RollRO t b n s hs pf sf w) (hk : Le w w') : RollRO t b n s hs pf sf w' := ⟨h.ok, h.ro.le hk⟩
theorem RollRO.blk (h : RollRO t b n s hs pf sf w) : Blk w b (rollC n) t.roll := (h.ro.at 0 rfl).ok
theorem RollRO.hm (h : RollRO t b n s hs pf sf w) : (mapr kInt kInt n.h hs).ok w := (h.ro.at 1 rfl).ok
theorem RollRO.lm (h : RollRO t b n s hs pf sf w) : Rd (lsE t.lease) w n.lv s.leases := vec_rd (h.ro.at 2 rfl).ok
theorem RollRO.pm (h : RollRO t b n s hs pf sf w) : (mapr kInt plV n.p pf).ok w := (h.ro.at 3 rfl).ok
theorem RollRO.im (h : RollRO t b n s hs pf sf w) : Rd (intE t.int) w n.iv s.idle := vec_rd (h.ro.at 4 rfl).ok
theorem RollRO.sm (h : RollRO t b n s hs pf sf w) : (mapr kInt mV n.s n.inn).ok w := (h.ro.at 5 rfl).ok
theorem Nm.inn_mem {o : Int} {m : Nat} (h : n.inn o = some m) : (o, m) ∈ n.ms := by
  unfold Nm.inn at h
  rw [Option.map_eq_some_iff] at h
  obtain ⟨q, hq, rfl⟩ := h
  have h1 := List.find?_some hq
  have h2 := List.mem_of_find?_eq_some hq
  simp at h1; subst h1; exact h2
theorem RollRO.em (h : RollRO t b n s hs pf sf w) {o : Int} {m : Nat} (hm : n.inn o = some m) : (mapr kInt kInt m (sf o)).ok w :=
  ((h.ro.at 6 rfl).mem (List.mem_map.2 ⟨(o, m), Nm.inn_mem hm, rfl⟩)).ok
end
end Go.Vk.Deed

/- Deeds, as plain mathematics, part 2: what a register is. No program in sight. -/
namespace Go.Vk.Deed
open Go Go.Vk Go.Vk.Flow

theorem own_iff {n : Int} : own n = true ↔ 1 ≤ n ∧ n ≤ 40 := by simp [own, rng]
theorem rng_iff {n a b : Int} : rng n a b = true ↔ a ≤ n ∧ n ≤ b := by simp [rng]
/-- What a deed's kind does not use. -/
def zeroB (x : D) : Bool := decide (x.day = 0 ∧ x.frm = 0 ∧ x.to = 0 ∧ x.parts = 0 ∧ x.stop = 0 ∧ x.of = 0 ∧ x.heirs.length = 0 ∧ x.shares.length = 0)
def bareD (x : D) : D := { x with id := 0, known := 0, day := 0, kind := 0 }
def headB (x : D) : Bool := rng x.id 1 400 && rng x.known 0 100000 && rng x.day 0 100000
def twoB (x : D) : Bool := own x.frm && own x.to && decide (x.frm ≠ x.to)
section
variable {x : D}
theorem formed_bad (h : headB x = false) : formed x = false := by
  simp only [formed, headB] at *
  rw [h, Bool.false_and]
theorem len0 {l : List Int} : l.isEmpty = decide (l.length = 0) := by cases l <;> simp
theorem formed1 (h : headB x = true) (k : x.kind = 1) : formed x = (own x.to && rng x.parts 1 1000000000 && zeroB { bareD x with to := 0, parts := 0 }) := by
  simp only [formed, headB] at *
  rw [h, Bool.true_and, Bool.eq_iff_iff]
  simp [kindB, k, zeroB, bareD, noLists, len0]
  intros; constructor <;> (intro h; simp_all)
theorem formed25 (h : headB x = true) (k : x.kind = 2 ∨ x.kind = 5) : formed x = (twoB x && rng x.parts 1 1000000000 && zeroB { bareD x with frm := 0, to := 0, parts := 0 }) := by
  simp only [formed, headB] at *
  rw [h, Bool.true_and, Bool.eq_iff_iff]
  rcases k with k | k <;> simp [kindB, k, zeroB, bareD, noLists, len0, twoB] <;> intros <;> constructor <;> (intro h; simp_all)
theorem formed3 (h : headB x = true) (k : x.kind = 3) : formed x = (heirsB x && zeroB { bareD x with frm := 0, heirs := [], shares := [] }) := by
  simp only [formed, headB] at *
  rw [h, Bool.true_and, Bool.eq_iff_iff]
  simp [kindB, k, zeroB, bareD]
theorem formed4 (h : headB x = true) (k : x.kind = 4) : formed x = (twoB x && rng x.parts 1 1000000000 && rng x.stop x.day 100000 && zeroB { bareD x with frm := 0, to := 0, parts := 0, stop := 0 }) := by
  simp only [formed, headB] at *
  rw [h, Bool.true_and, Bool.eq_iff_iff]
  simp [kindB, k, zeroB, bareD, noLists, len0, twoB]
  intros; constructor <;> (intro h; simp_all)
theorem formed67 (h : headB x = true) (k : x.kind = 6 ∨ x.kind = 7) : formed x = (rng x.of 1 (x.id - 1) && zeroB { bareD x with of := 0 }) := by
  simp only [formed, headB] at *
  rw [h, Bool.true_and, Bool.eq_iff_iff]
  rcases k with k | k <;> simp [kindB, k, zeroB, bareD, noLists, len0] <;> intros <;> constructor <;> (intro h; simp_all)
theorem formed8 (h : headB x = true) (k : x.kind = 8) : formed x = (rng x.of 1 (x.id - 1) && decide (x.day = 0) && zeroB { bareD x with of := 0 }) := by
  simp only [formed, headB] at *
  rw [h, Bool.true_and, Bool.eq_iff_iff]
  simp [kindB, k, zeroB, bareD, noLists, len0]
  intros; constructor <;> (intro h; simp_all)
theorem formed0 (h1 : x.kind ≠ 1) (h2 : x.kind ≠ 2) (h3 : x.kind ≠ 3) (h4 : x.kind ≠ 4) (h5 : x.kind ≠ 5) (h6 : x.kind ≠ 6) (h7 : x.kind ≠ 7) (h8 : x.kind ≠ 8) : formed x = false := by
  simp [formed, kindB, h1, h2, h3, h4, h5, h6, h7, h8]
end
theorem heirs_ok {x : D} (h0 : rng (x.heirs.length : Int) 1 10 = true ∧ (x.shares.length : Int) = x.heirs.length ∧ own x.frm = true ∧ x.heirs.all own = true) (h1 : x.shares.all (fun n => rng n 1 1000) = true) : heirsB x = fresh [x.frm] x.heirs := by
  obtain ⟨g1, g2, g3, g4⟩ := h0
  rw [rng_iff] at g1
  unfold heirsB; rw [h1, g3, g4, decide_eq_true (p := 1 ≤ x.heirs.length ∧ x.heirs.length ≤ 10) (by omega), decide_eq_true (p := x.shares.length = x.heirs.length) (by omega)]; rfl
theorem heirs_no {x : D} (h0 : rng (x.heirs.length : Int) 1 10 = true → (x.shares.length : Int) = x.heirs.length → own x.frm = true → x.heirs.all own = true → False) : heirsB x = false := by
  cases hh : heirsB x with
  | false => rfl
  | true =>
    unfold heirsB at hh
    simp only [Bool.and_eq_true, decide_eq_true_eq] at hh
    obtain ⟨⟨⟨⟨⟨g1, g2⟩, g3⟩, g4⟩, _⟩, _⟩ := hh
    exact (h0 (rng_iff.2 (by omega)) (by omega) g3 g4).elim
theorem heirs_sh {x : D} (h1 : (x.shares.any fun n => !rng n 1 1000) = true) : heirsB x = false := by
  have : x.shares.all (fun n => rng n 1 1000) = false := by
    rw [List.any_eq_true] at h1
    obtain ⟨z, hz, h⟩ := h1
    rw [List.all_eq_false]
    exact ⟨z, hz, by simpa using h⟩
  unfold heirsB; rw [this, Bool.and_false, Bool.false_and]
/-- A set, as a map says it. -/
def setM (l : List Int) : Int → Option Bool := fun k => if k ∈ l then some true else none
theorem setM_nil : (mnil : Int → Option Bool) = setM [] := by funext k; simp [mnil, setM]
theorem setM_cons {l : List Int} {k : Int} : mset (setM l) k true = setM (k :: l) := by
  funext q
  unfold mset setM
  by_cases h : q = k <;> simp [h]
theorem setM_get {l : List Int} {k : Int} : (setM l k).elim (.bool false) Value.bool = .bool (l.contains k) := by
  unfold setM
  by_cases h : k ∈ l <;> simp [h]
theorem fresh_step {seen l : List Int} {i : Nat} {y : Int} (hy : l[i]? = some y) (h : seen.contains y = false) : fresh seen (l.drop i) = fresh (y :: seen) (l.drop (i + 1)) := by
  obtain ⟨hi, rfl⟩ := List.getElem?_eq_some_iff.1 hy
  rw [List.drop_eq_getElem_cons hi, fresh, h, Bool.not_false, Bool.true_and]
theorem fresh_no {seen l : List Int} {i : Nat} {y : Int} (hy : l[i]? = some y) (h : seen.contains y = true) : fresh seen (l.drop i) = false := by
  obtain ⟨hi, rfl⟩ := List.getElem?_eq_some_iff.1 hy
  rw [List.drop_eq_getElem_cons hi, fresh, h, Bool.not_true, Bool.false_and]

/-! ### sums -/
theorem sumI_snoc {l : List Int} {x : Int} : sumI (l ++ [x]) = sumI l + x := by simp [sumI, List.foldl_append]
theorem sumI_nil : sumI [] = 0 := rfl
theorem sumI_cons {l : List Int} {x : Int} : sumI (x :: l) = x + sumI l := by
  have key : ∀ (l : List Int) (a : Int), l.foldl (· + ·) a = a + sumI l := by
    intro l
    induction l with
    | nil => intro a; simp [sumI]
    | cons y l ih => intro a; simp only [sumI, List.foldl_cons]; rw [ih, ih (0 + y)]; omega
  simp only [sumI, List.foldl_cons]; rw [key]; simp only [sumI]; omega
theorem sumI_bd : ∀ {l : List Int} {B : Int}, (∀ x ∈ l, 0 ≤ x ∧ x ≤ B) → 0 ≤ sumI l ∧ sumI l ≤ B * l.length := by
  intro l
  induction l with
  | nil => intro B _; simp [sumI]
  | cons x l ih =>
    intro B h
    have h1 := h x (List.mem_cons_self ..)
    have h2 := ih fun y hy => h y (List.mem_cons_of_mem _ hy)
    rw [sumI_cons, List.length_cons, Int.natCast_add, Int.mul_add]
    simp only [Int.natCast_one, Int.mul_one]
    omega
section
variable {l : List D} {x y : D} {i : Nat}
theorem enters_take (hy : l[i]? = some y) : enters (l.take (i + 1)) = enters (l.take i) + if y.kind = 1 then y.parts else 0 := by
  rw [enters, List.take_add_one, hy, List.map_append]
  exact sumI_snoc
theorem formed_parts (h : formed x = true) (k : x.kind = 1) : 1 ≤ x.parts ∧ x.parts ≤ 1000000000 := by
  simp [formed, kindB, k, rng] at h
  omega
theorem enters_bd (h : ∀ y ∈ l, formed y = true) : 0 ≤ enters l ∧ enters l ≤ 1000000000 * l.length := by
  have h1 := sumI_bd (l := l.map fun x => if x.kind = 1 then x.parts else 0) (B := 1000000000) fun z hz => by
    obtain ⟨y, hy, rfl⟩ := List.mem_map.1 hz
    split
    · have := formed_parts (h y hy) (by assumption); omega
    · omega
  rwa [List.length_map] at h1
theorem enters_bd_take (h : ∀ y ∈ l, formed y = true) (i : Nat) (hl : l.length < 400) : 0 ≤ enters (l.take i) ∧ enters (l.take i) ≤ 400000000000 := by
  have h1 := enters_bd (l := l.take i) fun y hy => h y (List.mem_of_mem_take hy)
  rw [List.length_take] at h1
  have : (min i l.length : Int) < 400 := by omega
  omega

/-! ### one more deed -/
theorem fol_full (h : 400 ≤ l.length) : follows l x = 2 := by rw [follows, if_pos h]
theorem fol_form (h : l.length < 400) (hb : formed x = false ∨ ¬ x.id = l.length + 1) : follows l x = 1 := by rw [follows, if_neg (by omega), if_pos hb]
theorem fol_time (h : l.length < 400) (hf : formed x = true) (hi : x.id = l.length + 1) {j : Nat} (hy : l[j]? = some y) (hj : j = l.length - 1) (ht : x.known < y.known) : follows l x = 7 := by
  have : l.getLast? = some y := by rw [List.getLast?_eq_getElem?, ← hj]; exact hy
  rw [follows, if_neg (by omega), if_neg (by simp [hf, hi]), if_pos]
  rw [lateB, this]; simpa using ht
theorem fol_go (h : l.length < 400) (hf : formed x = true) (hi : x.id = l.length + 1) (ht : lateB l x = false) : follows l x = if 0 < x.of then (if named l x then 8 else 0) else if x.kind = 1 then (if 1000000000 < enters l + x.parts then 2 else 0) else 0 := by
  rw [follows, if_neg (by omega), if_neg (by simp [hf, hi]), if_neg (by simp [ht])]
theorem fol_of (h : l.length < 400) (hf : formed x = true) (hi : x.id = l.length + 1) (ht : lateB l x = false) (ho : 0 < x.of) : follows l x = if named l x then 8 else 0 := by rw [fol_go h hf hi ht, if_pos ho]
theorem fol_enter (h : l.length < 400) (hf : formed x = true) (hi : x.id = l.length + 1) (ht : lateB l x = false) (ho : ¬ 0 < x.of) (k : x.kind = 1) : follows l x = if 1000000000 < enters l + x.parts then 2 else 0 := by rw [fol_go h hf hi ht, if_neg ho, if_pos k]
theorem fol_else (h : l.length < 400) (hf : formed x = true) (hi : x.id = l.length + 1) (ht : lateB l x = false) (ho : ¬ 0 < x.of) (k : ¬ x.kind = 1) : follows l x = 0 := by rw [fol_go h hf hi ht, if_neg ho, if_neg k]
theorem named_at (hy : l[(x.of - 1).toNat]? = some y) : named l x = if x.kind = 8 then decide (y.kind = 8) || l.any (fun z => decide (z.kind = 8 ∧ z.of = x.of)) else decide (y.kind ≠ 5) := by rw [named, hy]
theorem dl_any {rs : List Rw} {p : D → Bool} : (dl rs).any p = rs.any fun a => p a.1 := by simp [dl, List.any_map]; rfl
theorem fol_last {rs : List Rw} {a : Rw} (hy : rs[rs.length - 1]? = some a) (h : ¬ x.known < a.1.known) : lateB (dl rs) x = false := by
  have : (dl rs).getLast? = some a.1 := by rw [List.getLast?_eq_getElem?, dl_len]; exact dl_get hy
  rw [lateB, this]; simpa using h
theorem fol_last0 {rs : List Rw} (h : rs.length = 0) : lateB (dl rs) x = false := by
  obtain rfl : rs = [] := List.length_eq_zero_iff.1 h
  rfl
theorem formed_of (h : formed x = true) (ho : 0 < x.of) : x.of ≤ x.id - 1 ∧ (x.kind = 6 ∨ x.kind = 7 ∨ x.kind = 8) := by
  simp only [formed, Bool.and_eq_true] at h
  have hk := h.2
  simp only [kindB] at hk
  split at hk
  · simp at hk; omega
  · split at hk
    · simp at hk; omega
    · split at hk
      · simp at hk; omega
      · split at hk
        · simp at hk; omega
        · split at hk
          · simp [rng] at hk; omega
          · split at hk
            · simp [rng] at hk; omega
            · cases hk

theorem formed_lens (h : formed x = true) : x.heirs.length ≤ 10 ∧ x.shares.length ≤ 10 := by
  simp only [formed, Bool.and_eq_true] at h
  have hk := h.2
  have h0 : ∀ {l : List Int}, l.isEmpty = true → l.length ≤ 10 := fun e => by rw [len0] at e; simp at e; simp [e]
  simp only [kindB] at hk
  split at hk
  · simp only [Bool.and_eq_true, noLists] at hk; exact ⟨h0 hk.2.1, h0 hk.2.2⟩
  · split at hk
    · simp only [Bool.and_eq_true, noLists] at hk; exact ⟨h0 hk.2.1, h0 hk.2.2⟩
    · split at hk
      · simp only [Bool.and_eq_true, heirsB, decide_eq_true_eq] at hk; omega
      · split at hk
        · simp only [Bool.and_eq_true, noLists] at hk; exact ⟨h0 hk.2.1, h0 hk.2.2⟩
        · split at hk
          · simp only [Bool.and_eq_true, noLists] at hk; exact ⟨h0 hk.2.1, h0 hk.2.2⟩
          · split at hk
            · simp only [Bool.and_eq_true, noLists] at hk; exact ⟨h0 hk.2.1, h0 hk.2.2⟩
            · cases hk

/-! ### the check -/
theorem follows_formed (h : follows l x = 0) : formed x = true ∧ x.id = l.length + 1 ∧ l.length < 400 := by
  unfold follows at h
  split at h
  · cases h
  · split at h
    · cases h
    · next h1 h2 =>
      rw [not_or] at h2
      exact ⟨by simpa using h2.1, Decidable.not_not.1 h2.2, by omega⟩
theorem chkAt_get (h : l[i]? = some x) : chkAt l i = follows (l.take i) x := by rw [chkAt, h]
theorem chk_none (h : ∀ j, j < l.length → chkAt l j = 0) : chkD l = (0, 0) := by
  have : (List.range l.length).find? (fun i => decide (chkAt l i ≠ 0)) = none := by
    rw [List.find?_eq_none]
    intro j hj
    simp [h j (List.mem_range.1 hj)]
  rw [chkD, this]
theorem chk_at (hi : i < l.length) (h0 : ∀ j, j < i → chkAt l j = 0) (h : chkAt l i ≠ 0) : chkD l = ((i : Int), chkAt l i) := by
  have : (List.range l.length).find? (fun i => decide (chkAt l i ≠ 0)) = some i := by
    rw [List.find?_range_eq_some]
    refine ⟨by simpa using h, List.mem_range.2 hi, fun j hj => by simp [h0 j hj]⟩
  rw [chkD, this]
theorem right_iff : rightD l = true ↔ ∀ j, j < l.length → chkAt l j = 0 := by
  rw [rightD, decide_eq_true_iff]
  constructor
  · intro h j hj
    refine Classical.byContradiction fun hn => ?_
    -- the first one
    have hex : ∃ i, i < l.length ∧ chkAt l i ≠ 0 ∧ ∀ j, j < i → chkAt l j = 0 := by
      have key : ∀ n, n ≤ l.length → (∃ i, i < n ∧ chkAt l i ≠ 0 ∧ ∀ j, j < i → chkAt l j = 0) ∨ ∀ j, j < n → chkAt l j = 0 := by
        intro n
        induction n with
        | zero => intro _; exact .inr fun j hj => absurd hj (Nat.not_lt_zero j)
        | succ n ih =>
          intro hn
          rcases ih (by omega) with ⟨i, h1, h2⟩ | h1
          · exact .inl ⟨i, by omega, h2⟩
          · by_cases h2 : chkAt l n = 0
            · exact .inr fun j hj => by
                rcases Nat.lt_or_ge j n with h3 | h3
                · exact h1 j h3
                · have : j = n := by omega
                  subst this; exact h2
            · exact .inl ⟨n, by omega, h2, h1⟩
      rcases key l.length (Nat.le_refl _) with ⟨i, h1⟩ | h1
      · exact ⟨i, h1⟩
      · exact absurd (h1 j hj) hn
    obtain ⟨i, h1, h2, h3⟩ := hex
    rw [chk_at h1 h3 h2] at h
    exact h2 h
  · intro h; rw [chk_none h]
theorem right_at (h : rightD l = true) (hx : l[i]? = some x) : follows (l.take i) x = 0 := by
  rw [← chkAt_get hx]; exact right_iff.1 h i (List.getElem?_eq_some_iff.1 hx).1
theorem right_formed (h : rightD l = true) (hx : x ∈ l) : formed x = true := by
  obtain ⟨i, hi⟩ := List.getElem?_of_mem hx
  exact (follows_formed (right_at h hi)).1
theorem right_id (h : rightD l = true) (hx : l[i]? = some x) : x.id = i + 1 ∧ i < 400 := by
  have h1 := (follows_formed (right_at h hx)).2
  have hi := (List.getElem?_eq_some_iff.1 hx).1
  rw [List.length_take] at h1
  omega
theorem right_len (h : rightD l = true) : l.length ≤ 400 := by
  cases hl : l.length with
  | zero => omega
  | succ n =>
    obtain ⟨x, hx⟩ : ∃ x, l[n]? = some x := ⟨_, List.getElem?_eq_getElem (by omega)⟩
    have := (right_id h hx).2
    omega
end
end Go.Vk.Deed

/- The proof engine, part 15: ranges over functions within loops: marks that pile up among the deferred calls. Generic over the program. -/
namespace Go.Vk
open Go

section
variable {P : Program} {b : Frame} {cs : List Frame} {fin : Machine → Prop} {n : Nat} {k : List Item} {ρ : Env} {ds : List Deferred} {w : World}

/-- A loop whose rounds defer calls. -/
theorem r_loopD {G : Type} (μ : G → Nat) (slots : G → List (Nat × Value)) (I : G → World → Prop) (dd : G → List Deferred) {c : Code} (g : G) (ha : Agree ρ (slots g)) (hI : I g w) (hd : ds = dd g)
    (round : ∀ g ρ w, I g w → (∀ g' ρ' w' ds', μ g' < μ g → Agree ρ' (slots g') → I g' w' → ds' = dd g' → Run P b cs fin n (.inLoop c :: k) ρ' ds' w') →
      Run P b cs fin n (.code c :: .inLoop c :: k) (upds ρ (slots g)) (dd g) w) :
    Run P b cs fin n (.code (.loop c) :: k) ρ ds w := by
  subst hd
  have key : ∀ N g ρ w, μ g = N → Agree ρ (slots g) → I g w → Run P b cs fin n (.inLoop c :: k) ρ (dd g) w := by
    intro N
    induction N using Nat.strongRecOn with
    | _ N ih =>
      intro g ρ w hN ha hI
      refine r_inLoop0 ?_
      have := round g ρ w hI fun g' ρ' w' ds' hlt ha' hI' hd' => by subst hd'; exact ih _ (hN ▸ hlt) g' ρ' w' rfl ha' hI'
      rwa [upds_agree ha] at this
  have h := key _ g ρ w rfl ha hI
  refine r_loop0 ?_
  obtain ⟨m, hs, hf⟩ := h
  obtain ⟨j, hj⟩ := hs
  cases j with
  | zero =>
    have := round g ρ w hI fun g' ρ' w' ds' _ ha' hI' hd' => by subst hd'; exact key _ g' ρ' w' rfl ha' hI'
    rwa [upds_agree ha] at this
  | succ j =>
    have := round g ρ w hI fun g' ρ' w' ds' _ ha' hI' hd' => by subst hd'; exact key _ g' ρ' w' rfl ha' hI'
    rwa [upds_agree ha] at this
end

/-- Marks that are owned. -/
def marksR (Ds : List Nat) : Rsc := pack (Ds.map fun D => obj D (.deferred (some [])))

section
variable {X : Nat → Prop} {w0 w : World} {A M : List Rsc} {r : Rsc} {D : Nat} {Ds : List Nat}

theorem Own.nopack (S : Own X w0 w A) : Own X w0 w (A ++ [marksR []]) := by
  refine S.add (Le.refl w) ⟨⟨fun r hr => (by cases hr), fun j k r s hr => (by simp at hr)⟩, fun b hb => ?_⟩
  obtain ⟨r, hr, _⟩ := hb
  cases hr
/-- One mark more. -/
theorem Own.mcons (S : Own X w0 w (A ++ [Vk.obj D (.deferred (some [])), marksR Ds])) : Own X w0 w (A ++ [marksR (D :: Ds)]) := by
  have S1 : Own X w0 w ((A ++ [Vk.obj D (.deferred (some []))]) ++ [Vk.pack (Ds.map fun D => Vk.obj D (.deferred (some [])))]) := by rw [List.append_assoc]; exact S
  have S2 := S1.unpack
  rw [List.append_assoc] at S2
  exact S2.pack (A := A)
theorem Own.drop1 (S : Own X w0 w (A ++ r :: M)) : Own X w0 w (A ++ M) := by
  refine S.perm ((List.range (A.length + M.length)).map fun k => if k < A.length then k else k + 1) ?_ fun k s hs => ?_
  · refine List.Pairwise.map _ (fun a b h => ?_) List.nodup_range
    intro e
    split at e <;> split at e <;> omega
  · have hk : k < A.length + M.length := by have := (List.getElem?_eq_some_iff.1 hs).1; simpa using this
    refine ⟨if k < A.length then k else k + 1, by simp [hk], ?_⟩
    split
    · rename_i h; rw [List.getElem?_append_left h] at hs ⊢; exact hs
    · rename_i h
      rw [List.getElem?_append_right (by omega)] at hs ⊢
      have e : k + 1 - A.length = (k - A.length) + 1 := by omega
      rw [e, List.getElem?_cons_succ]; exact hs
end

section
variable {P : Program} {b : Frame} {cs : List Frame} {fin : Machine → Prop} {n : Nat} {k : List Item} {ρ : Env} {ds : List Deferred} {X : Nat → Prop} {w0 : World} {A : List Rsc}

/-- The way out, through all marks. -/
theorem leave_marks : ∀ (Ds : List Nat) {w : World}, Own X w0 w (A ++ [marksR Ds]) → (∀ w', Own X w0 w' A → Leave P b cs fin n k ρ ds w') → Leave P b cs fin n k ρ (Ds.map mark ++ ds) w := by
  intro Ds
  induction Ds with
  | nil => intro w S h; exact h w (by have := S.take A.length; rwa [List.take_left] at this)
  | cons D Ds ih =>
    intro w S h
    have S1 : Own X w0 w (A ++ (obj D (.deferred (some [])) :: Ds.map fun D => obj D (.deferred (some [])))) := Own.unpack (A := A) S
    refine leave_mark S1 A.length (by simp) fun w' S2 _ => ?_
    rw [List.set_append_right _ _ (Nat.le_refl _), Nat.sub_self, List.set_cons_zero] at S2
    exact ih (Own.pack (A := A) (S2.drop1)) h
end
end Go.Vk
